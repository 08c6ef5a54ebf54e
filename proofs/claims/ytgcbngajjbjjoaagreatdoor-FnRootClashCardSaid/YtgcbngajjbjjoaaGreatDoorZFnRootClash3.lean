/- It is proved that files of installed packages are protected (FnRootClash). (part 4 of 7: JkBTy, JkBF108, JkBF192, JkBF151, JkBF171, JkBF209, JkBPuA, JkBF208, JkBPuB, JkBF129, JkBF109, JkBF111, JkBF173, JkBF152, JkBF218, JkBPuC, JkBF110v0, JkBF113, JkBF160, JkBF198, JkBF161, JkBF112v0, JkB) Conditions: none beyond the statement. -/
import Derived.Test.YtgcbngajjbjjoaaGreatDoorZFnRootClash2
import Derived.Tactics
import Derived.Deep.RegionLaw
import Derived.Shelf.Abstract
import Derived.Test.YtgcbngajjbjjoaaGreatDoorProg
import Derived.KernelRfl
set_option linter.unusedSimpArgs false
set_option maxRecDepth 100000
set_option linter.unusedVariables false
namespace Go.Proofs
open Go.Jk
noncomputable def jzn (P : Program) (t : TypeId) : Array Field := match P.underlying t with | some (.struct f) => f | _ => #[]
noncomputable def fps (P : Program) (t : TypeId) : Array TypeId := match P.underlying t with | some (.func a _ _) => a | _ => #[]
noncomputable def frs (P : Program) (t : TypeId) : Array TypeId := match P.underlying t with | some (.func _ b _) => b | _ => #[]
noncomputable def fvr (P : Program) (t : TypeId) : Bool := match P.underlying t with | some (.func _ _ v) => v | _ => false
noncomputable def ttL : List (Nat × TI) := [(1, .func),
 (2, .int .i64),
 (3, .int .i64),
 (4, .bool),
 (5, .int .u8),
 (6, .int .u8),
 (7, .struct [(0, 1), (1, 1), (2, 1), (3, 1)] 4 [.d (.int .i64 0), .d (.int .i64 0), .d (.bool false), .d (.int .u8 0)] false),
 (8, .struct [(0, 1), (1, 1), (2, 1), (3, 1)] 4 [.d (.int .i64 0), .d (.int .i64 0), .d (.bool false), .d (.int .u8 0)] false),
 (9, .str),
 (10, .str),
 (11, .str),
 (12, .int .u64),
 (13, .struct [(0, 1), (1, 1)] 2 [.d (.str []), .d (.int .u64 0)] false),
 (14, .struct [(0, 1), (1, 1)] 2 [.d (.str []), .d (.int .u64 0)] false),
 (15, .ptr),
 (16, .ptr),
 (17, .ptr),
 (18, .struct [(0, 1)] 1 [.cst (.pointer none)] false),
 (19, .struct [(0, 1)] 1 [.cst (.pointer none)] false),
 (21, .int .i32),
 (22, .slice 5 .u8 1),
 (23, .slice 37 .pack 80),
 (24, .struct [(0, 1)] 1 [.nil .pack] false),
 (25, .struct [(0, 1)] 1 [.nil .pack] false),
 (26, .func),
 (27, .slice 32 .entry 48),
 (28, .func),
 (29, .func),
 (30, .func),
 (31, .struct [(0, 1), (1, 1), (2, 1), (3, 1)] 4 [.d (.str []), .d (.int .i64 0), .d (.int .i64 0), .d (.str [])] false),
 (32, .struct [(0, 1), (1, 1), (2, 1), (3, 1)] 4 [.d (.str []), .d (.int .i64 0), .d (.int .i64 0), .d (.str [])] true),
 (34, .func),
 (35, .slice 50 .need 40),
 (36, .struct [(0, 1), (1, 1), (2, 1), (3, 1)] 4 [.d (.str []), .d (.str []), .nil .need, .nil .entry] false),
 (37, .struct [(0, 1), (1, 1), (2, 1), (3, 1)] 4 [.d (.str []), .d (.str []), .nil .need, .nil .entry] false),
 (38, .func),
 (39, .func),
 (41, .func),
 (42, .func),
 (44, .func),
 (45, .func),
 (47, .func),
 (48, .func),
 (49, .struct [(0, 1), (1, 1), (2, 1)] 3 [.d (.str []), .d (.int .i64 0), .d (.str [])] false),
 (50, .struct [(0, 1), (1, 1), (2, 1)] 3 [.d (.str []), .d (.int .i64 0), .d (.str [])] true),
 (51, .func),
 (52, .slice 62 .pack 80),
 (53, .struct [(0, 1)] 1 [.nil .pack] false),
 (54, .struct [(0, 1)] 1 [.nil .pack] false),
 (55, .func),
 (56, .func),
 (57, .func),
 (58, .func),
 (59, .slice 146 .need 40),
 (60, .slice 148 .entry 48),
 (61, .struct [(0, 1), (1, 1), (2, 1), (3, 1)] 4 [.d (.str []), .d (.str []), .nil .need, .nil .entry] false),
 (62, .struct [(0, 1), (1, 1), (2, 1), (3, 1)] 4 [.d (.str []), .d (.str []), .nil .need, .nil .entry] false),
 (63, .func),
 (64, .func),
 (65, .func),
 (66, .func),
 (67, .func),
 (68, .slice 9 .str 16),
 (70, .func),
 (71, .func),
 (72, .func),
 (73, .ptr),
 (74, .func),
 (76, .func),
 (77, .func),
 (79, .func),
 (80, .func),
 (81, .func),
 (82, .func),
 (83, .func),
 (84, .func),
 (85, .func),
 (86, .func),
 (87, .func),
 (88, .func),
 (89, .func),
 (90, .func),
 (91, .func),
 (92, .func),
 (93, .func),
 (94, .func),
 (95, .func),
 (96, .func),
 (97, .func),
 (98, .func),
 (99, .func),
 (100, .func),
 (101, .func),
 (102, .func),
 (103, .func),
 (104, .func),
 (107, .func),
 (108, .slice 3 .i64 8),
 (111, .func),
 (113, .func),
 (114, .struct [(0, 1), (1, 1)] 2 [.nil .u8, .d (.int .i64 0)] false),
 (115, .struct [(0, 1), (1, 1)] 2 [.nil .u8, .d (.int .i64 0)] false),
 (116, .func),
 (117, .func),
 (118, .func),
 (119, .func),
 (121, .func),
 (122, .func),
 (123, .func),
 (124, .func),
 (125, .func),
 (126, .func),
 (127, .func),
 (128, .func),
 (129, .func),
 (130, .func),
 (131, .func),
 (132, .func),
 (133, .func),
 (134, .func),
 (135, .func),
 (136, .func),
 (137, .func),
 (138, .func),
 (139, .slice 3 .i64 8),
 (141, .func),
 (142, .func),
 (143, .func),
 (144, .func),
 (145, .func),
 (146, .struct [(0, 1), (1, 1), (2, 1)] 3 [.d (.str []), .d (.int .i64 0), .d (.str [])] true),
 (147, .func),
 (148, .struct [(0, 1), (1, 1), (2, 1), (3, 1)] 4 [.d (.str []), .d (.int .i64 0), .d (.int .i64 0), .d (.str [])] true),
 (149, .func),
 (150, .func),
 (151, .func),
 (152, .func),
 (153, .ptr),
 (154, .func),
 (155, .func),
 (156, .func),
 (157, .int .u64),
 (158, .func),
 (159, .func),
 (160, .func),
 (161, .func),
 (162, .func),
 (163, .func),
 (164, .func),
 (165, .func),
 (166, .func),
 (167, .func),
 (168, .func),
 (169, .func),
 (170, .func),
 (171, .func),
 (172, .func),
 (173, .func),
 (175, .func),
 (176, .func),
 (177, .func),
 (178, .int .i64),
 (180, .func),
 (181, .func),
 (182, .func),
 (183, .func),
 (184, .func),
 (185, .func),
 (186, .int .u32),
 (187, .func),
 (188, .int .u64),
 (189, .func),
 (190, .func),
 (191, .func),
 (192, .func),
 (193, .func),
 (194, .func),
 (195, .func),
 (196, .func),
 (197, .func),
 (198, .func),
 (199, .func),
 (200, .func),
 (201, .func),
 (202, .int .u64),
 (203, .func),
 (204, .func),
 (205, .func),
 (206, .ptr),
 (207, .func),
 (209, .func),
 (210, .func),
 (211, .func),
 (212, .func),
 (213, .ptr),
 (215, .func),
 (216, .func),
 (218, .struct [(0, 1), (1, 1)] 2 [.d (.int .u8 0), .d (.int .u8 0)] false),
 (219, .struct [(0, 1), (1, 1)] 2 [.d (.int .u8 0), .d (.int .u8 0)] false),
 (221, .func),
 (223, .func),
 (224, .func),
 (225, .struct [(0, 1), (1, 1), (2, 1), (3, 1)] 4 [.cst (.pointer none), .cst (.pointer none), .cst (.pointer none), .d (.str [])] false),
 (226, .struct [(0, 1), (1, 1), (2, 1), (3, 1)] 4 [.cst (.pointer none), .cst (.pointer none), .cst (.pointer none), .d (.str [])] false),
 (230, .int .u8),
 (231, .int .u8),
 (232, .func),
 (233, .ptr),
 (234, .int .i32),
 (235, .int .i32),
 (236, .struct [(0, 1), (1, 1), (2, 1), (3, 1), (4, 1), (5, 1), (6, 1), (7, 1), (8, 1), (9, 1), (10, 1)] 11 [.d (.int .u64 0), .d (.int .u64 0), .d (.int .u32 0), .d (.int .u8 0), .d (.int .u8 0), .d (.int .u8 0), .d (.int .u8 0), .cst .nilFunc, .cst (.pointer none), .d (.int .i32 0), .d (.int .i32 0)] false),
 (237, .struct [(0, 1), (1, 1), (2, 1), (3, 1), (4, 1), (5, 1), (6, 1), (7, 1), (8, 1), (9, 1), (10, 1)] 11 [.d (.int .u64 0), .d (.int .u64 0), .d (.int .u32 0), .d (.int .u8 0), .d (.int .u8 0), .d (.int .u8 0), .d (.int .u8 0), .cst .nilFunc, .cst (.pointer none), .d (.int .i32 0), .d (.int .i32 0)] false)]
noncomputable def tt : TypeId → TI := tyAt ttL
theorem ty1 : (.func : TI).ok Tryz.prog 1 := ⟨fps Tryz.prog 1, frs Tryz.prog 1, fvr Tryz.prog 1, ⟨(by kernel_rfl), (fun _ h => by cases h), (fun _ _ h => by cases h), (by kernel_rfl)⟩⟩
theorem ty2 : (.int .i64 : TI).ok Tryz.prog 2 := ⟨(by kernel_rfl), (fun _ h => by cases h), (fun _ _ h => by cases h), (by kernel_rfl)⟩
theorem ty3 : (.int .i64 : TI).ok Tryz.prog 3 := ⟨(by kernel_rfl), (fun _ h => by cases h), (fun _ _ h => by cases h), (by kernel_rfl)⟩
theorem ty4 : (.bool : TI).ok Tryz.prog 4 := ⟨(by kernel_rfl), (fun _ h => by cases h), (fun _ _ h => by cases h), (by kernel_rfl)⟩
theorem ty5 : (.int .u8 : TI).ok Tryz.prog 5 := ⟨(by kernel_rfl), (fun _ h => by cases h), (fun _ _ h => by cases h), (by kernel_rfl)⟩
theorem ty6 : (.int .u8 : TI).ok Tryz.prog 6 := ⟨(by kernel_rfl), (fun _ h => by cases h), (fun _ _ h => by cases h), (by kernel_rfl)⟩
theorem ty9 : (.str : TI).ok Tryz.prog 9 := ⟨(by kernel_rfl), (fun _ h => by cases h), (fun _ _ h => by cases h), (by kernel_rfl)⟩
theorem ty10 : (.str : TI).ok Tryz.prog 10 := ⟨(by kernel_rfl), (fun _ h => by cases h), (fun _ _ h => by cases h), (by kernel_rfl)⟩
theorem ty11 : (.str : TI).ok Tryz.prog 11 := ⟨(by kernel_rfl), (fun _ h => by cases h), (fun _ _ h => by cases h), (by kernel_rfl)⟩
theorem ty12 : (.int .u64 : TI).ok Tryz.prog 12 := ⟨(by kernel_rfl), (fun _ h => by cases h), (fun _ _ h => by cases h), (by kernel_rfl)⟩
theorem ty15 : (.ptr : TI).ok Tryz.prog 15 := ⟨226, ⟨(by kernel_rfl), (fun _ h => by cases h), (fun _ _ h => by cases h), (by kernel_rfl)⟩⟩
theorem ty16 : (.ptr : TI).ok Tryz.prog 16 := ⟨229, ⟨(by kernel_rfl), (fun _ h => by cases h), (fun _ _ h => by cases h), (by kernel_rfl)⟩⟩
theorem ty17 : (.ptr : TI).ok Tryz.prog 17 := ⟨237, ⟨(by kernel_rfl), (fun _ h => by cases h), (fun _ _ h => by cases h), (by kernel_rfl)⟩⟩
theorem ty21 : (.int .i32 : TI).ok Tryz.prog 21 := ⟨(by kernel_rfl), (fun _ h => by cases h), (fun _ _ h => by cases h), (by kernel_rfl)⟩
theorem ty22 : (.slice 5 .u8 1 : TI).ok Tryz.prog 22 := ⟨⟨(by kernel_rfl), (fun _ h => by cases h), (fun _ _ h => by cases h), (by kernel_rfl)⟩, .int .u8 0, (by kernel_rfl), rfl⟩
theorem ty23 : (.slice 37 .pack 80 : TI).ok Tryz.prog 23 := ⟨⟨(by kernel_rfl), (fun _ h => by cases h), (fun _ _ h => by cases h), (by kernel_rfl)⟩, .agg #[.string ⟨#[]⟩, .string ⟨#[]⟩, .slice none 0 0, .slice none 0 0], (by kernel_rfl), rfl⟩
theorem ty26 : (.func : TI).ok Tryz.prog 26 := ⟨fps Tryz.prog 26, frs Tryz.prog 26, fvr Tryz.prog 26, ⟨(by kernel_rfl), (fun _ h => by cases h), (fun _ _ h => by cases h), (by kernel_rfl)⟩⟩
theorem ty27 : (.slice 32 .entry 48 : TI).ok Tryz.prog 27 := ⟨⟨(by kernel_rfl), (fun _ h => by cases h), (fun _ _ h => by cases h), (by kernel_rfl)⟩, .agg #[.string ⟨#[]⟩, .int .i64 0, .int .i64 0, .string ⟨#[]⟩], (by kernel_rfl), rfl⟩
theorem ty28 : (.func : TI).ok Tryz.prog 28 := ⟨fps Tryz.prog 28, frs Tryz.prog 28, fvr Tryz.prog 28, ⟨(by kernel_rfl), (fun _ h => by cases h), (fun _ _ h => by cases h), (by kernel_rfl)⟩⟩
theorem ty29 : (.func : TI).ok Tryz.prog 29 := ⟨fps Tryz.prog 29, frs Tryz.prog 29, fvr Tryz.prog 29, ⟨(by kernel_rfl), (fun _ h => by cases h), (fun _ _ h => by cases h), (by kernel_rfl)⟩⟩
theorem ty30 : (.func : TI).ok Tryz.prog 30 := ⟨fps Tryz.prog 30, frs Tryz.prog 30, fvr Tryz.prog 30, ⟨(by kernel_rfl), (fun _ h => by cases h), (fun _ _ h => by cases h), (by kernel_rfl)⟩⟩
theorem ty34 : (.func : TI).ok Tryz.prog 34 := ⟨fps Tryz.prog 34, frs Tryz.prog 34, fvr Tryz.prog 34, ⟨(by kernel_rfl), (fun _ h => by cases h), (fun _ _ h => by cases h), (by kernel_rfl)⟩⟩
theorem ty35 : (.slice 50 .need 40 : TI).ok Tryz.prog 35 := ⟨⟨(by kernel_rfl), (fun _ h => by cases h), (fun _ _ h => by cases h), (by kernel_rfl)⟩, .agg #[.string ⟨#[]⟩, .int .i64 0, .string ⟨#[]⟩], (by kernel_rfl), rfl⟩
theorem ty38 : (.func : TI).ok Tryz.prog 38 := ⟨fps Tryz.prog 38, frs Tryz.prog 38, fvr Tryz.prog 38, ⟨(by kernel_rfl), (fun _ h => by cases h), (fun _ _ h => by cases h), (by kernel_rfl)⟩⟩
theorem ty39 : (.func : TI).ok Tryz.prog 39 := ⟨fps Tryz.prog 39, frs Tryz.prog 39, fvr Tryz.prog 39, ⟨(by kernel_rfl), (fun _ h => by cases h), (fun _ _ h => by cases h), (by kernel_rfl)⟩⟩
theorem ty41 : (.func : TI).ok Tryz.prog 41 := ⟨fps Tryz.prog 41, frs Tryz.prog 41, fvr Tryz.prog 41, ⟨(by kernel_rfl), (fun _ h => by cases h), (fun _ _ h => by cases h), (by kernel_rfl)⟩⟩
theorem ty42 : (.func : TI).ok Tryz.prog 42 := ⟨fps Tryz.prog 42, frs Tryz.prog 42, fvr Tryz.prog 42, ⟨(by kernel_rfl), (fun _ h => by cases h), (fun _ _ h => by cases h), (by kernel_rfl)⟩⟩
theorem ty44 : (.func : TI).ok Tryz.prog 44 := ⟨fps Tryz.prog 44, frs Tryz.prog 44, fvr Tryz.prog 44, ⟨(by kernel_rfl), (fun _ h => by cases h), (fun _ _ h => by cases h), (by kernel_rfl)⟩⟩
theorem ty45 : (.func : TI).ok Tryz.prog 45 := ⟨fps Tryz.prog 45, frs Tryz.prog 45, fvr Tryz.prog 45, ⟨(by kernel_rfl), (fun _ h => by cases h), (fun _ _ h => by cases h), (by kernel_rfl)⟩⟩
theorem ty47 : (.func : TI).ok Tryz.prog 47 := ⟨fps Tryz.prog 47, frs Tryz.prog 47, fvr Tryz.prog 47, ⟨(by kernel_rfl), (fun _ h => by cases h), (fun _ _ h => by cases h), (by kernel_rfl)⟩⟩
theorem ty48 : (.func : TI).ok Tryz.prog 48 := ⟨fps Tryz.prog 48, frs Tryz.prog 48, fvr Tryz.prog 48, ⟨(by kernel_rfl), (fun _ h => by cases h), (fun _ _ h => by cases h), (by kernel_rfl)⟩⟩
theorem ty51 : (.func : TI).ok Tryz.prog 51 := ⟨fps Tryz.prog 51, frs Tryz.prog 51, fvr Tryz.prog 51, ⟨(by kernel_rfl), (fun _ h => by cases h), (fun _ _ h => by cases h), (by kernel_rfl)⟩⟩
theorem ty52 : (.slice 62 .pack 80 : TI).ok Tryz.prog 52 := ⟨⟨(by kernel_rfl), (fun _ h => by cases h), (fun _ _ h => by cases h), (by kernel_rfl)⟩, .agg #[.string ⟨#[]⟩, .string ⟨#[]⟩, .slice none 0 0, .slice none 0 0], (by kernel_rfl), rfl⟩
theorem ty55 : (.func : TI).ok Tryz.prog 55 := ⟨fps Tryz.prog 55, frs Tryz.prog 55, fvr Tryz.prog 55, ⟨(by kernel_rfl), (fun _ h => by cases h), (fun _ _ h => by cases h), (by kernel_rfl)⟩⟩
theorem ty56 : (.func : TI).ok Tryz.prog 56 := ⟨fps Tryz.prog 56, frs Tryz.prog 56, fvr Tryz.prog 56, ⟨(by kernel_rfl), (fun _ h => by cases h), (fun _ _ h => by cases h), (by kernel_rfl)⟩⟩
theorem ty57 : (.func : TI).ok Tryz.prog 57 := ⟨fps Tryz.prog 57, frs Tryz.prog 57, fvr Tryz.prog 57, ⟨(by kernel_rfl), (fun _ h => by cases h), (fun _ _ h => by cases h), (by kernel_rfl)⟩⟩
theorem ty58 : (.func : TI).ok Tryz.prog 58 := ⟨fps Tryz.prog 58, frs Tryz.prog 58, fvr Tryz.prog 58, ⟨(by kernel_rfl), (fun _ h => by cases h), (fun _ _ h => by cases h), (by kernel_rfl)⟩⟩
theorem ty59 : (.slice 146 .need 40 : TI).ok Tryz.prog 59 := ⟨⟨(by kernel_rfl), (fun _ h => by cases h), (fun _ _ h => by cases h), (by kernel_rfl)⟩, .agg #[.string ⟨#[]⟩, .int .i64 0, .string ⟨#[]⟩], (by kernel_rfl), rfl⟩
theorem ty60 : (.slice 148 .entry 48 : TI).ok Tryz.prog 60 := ⟨⟨(by kernel_rfl), (fun _ h => by cases h), (fun _ _ h => by cases h), (by kernel_rfl)⟩, .agg #[.string ⟨#[]⟩, .int .i64 0, .int .i64 0, .string ⟨#[]⟩], (by kernel_rfl), rfl⟩
theorem ty63 : (.func : TI).ok Tryz.prog 63 := ⟨fps Tryz.prog 63, frs Tryz.prog 63, fvr Tryz.prog 63, ⟨(by kernel_rfl), (fun _ h => by cases h), (fun _ _ h => by cases h), (by kernel_rfl)⟩⟩
theorem ty64 : (.func : TI).ok Tryz.prog 64 := ⟨fps Tryz.prog 64, frs Tryz.prog 64, fvr Tryz.prog 64, ⟨(by kernel_rfl), (fun _ h => by cases h), (fun _ _ h => by cases h), (by kernel_rfl)⟩⟩
theorem ty65 : (.func : TI).ok Tryz.prog 65 := ⟨fps Tryz.prog 65, frs Tryz.prog 65, fvr Tryz.prog 65, ⟨(by kernel_rfl), (fun _ h => by cases h), (fun _ _ h => by cases h), (by kernel_rfl)⟩⟩
theorem ty66 : (.func : TI).ok Tryz.prog 66 := ⟨fps Tryz.prog 66, frs Tryz.prog 66, fvr Tryz.prog 66, ⟨(by kernel_rfl), (fun _ h => by cases h), (fun _ _ h => by cases h), (by kernel_rfl)⟩⟩
theorem ty67 : (.func : TI).ok Tryz.prog 67 := ⟨fps Tryz.prog 67, frs Tryz.prog 67, fvr Tryz.prog 67, ⟨(by kernel_rfl), (fun _ h => by cases h), (fun _ _ h => by cases h), (by kernel_rfl)⟩⟩
theorem ty68 : (.slice 9 .str 16 : TI).ok Tryz.prog 68 := ⟨⟨(by kernel_rfl), (fun _ h => by cases h), (fun _ _ h => by cases h), (by kernel_rfl)⟩, .string ⟨#[]⟩, (by kernel_rfl), rfl⟩
theorem ty70 : (.func : TI).ok Tryz.prog 70 := ⟨fps Tryz.prog 70, frs Tryz.prog 70, fvr Tryz.prog 70, ⟨(by kernel_rfl), (fun _ h => by cases h), (fun _ _ h => by cases h), (by kernel_rfl)⟩⟩
theorem ty71 : (.func : TI).ok Tryz.prog 71 := ⟨fps Tryz.prog 71, frs Tryz.prog 71, fvr Tryz.prog 71, ⟨(by kernel_rfl), (fun _ h => by cases h), (fun _ _ h => by cases h), (by kernel_rfl)⟩⟩
theorem ty72 : (.func : TI).ok Tryz.prog 72 := ⟨fps Tryz.prog 72, frs Tryz.prog 72, fvr Tryz.prog 72, ⟨(by kernel_rfl), (fun _ h => by cases h), (fun _ _ h => by cases h), (by kernel_rfl)⟩⟩
theorem ty73 : (.ptr : TI).ok Tryz.prog 73 := ⟨115, ⟨(by kernel_rfl), (fun _ h => by cases h), (fun _ _ h => by cases h), (by kernel_rfl)⟩⟩
theorem ty74 : (.func : TI).ok Tryz.prog 74 := ⟨fps Tryz.prog 74, frs Tryz.prog 74, fvr Tryz.prog 74, ⟨(by kernel_rfl), (fun _ h => by cases h), (fun _ _ h => by cases h), (by kernel_rfl)⟩⟩
theorem ty76 : (.func : TI).ok Tryz.prog 76 := ⟨fps Tryz.prog 76, frs Tryz.prog 76, fvr Tryz.prog 76, ⟨(by kernel_rfl), (fun _ h => by cases h), (fun _ _ h => by cases h), (by kernel_rfl)⟩⟩
theorem ty77 : (.func : TI).ok Tryz.prog 77 := ⟨fps Tryz.prog 77, frs Tryz.prog 77, fvr Tryz.prog 77, ⟨(by kernel_rfl), (fun _ h => by cases h), (fun _ _ h => by cases h), (by kernel_rfl)⟩⟩
theorem ty79 : (.func : TI).ok Tryz.prog 79 := ⟨fps Tryz.prog 79, frs Tryz.prog 79, fvr Tryz.prog 79, ⟨(by kernel_rfl), (fun _ h => by cases h), (fun _ _ h => by cases h), (by kernel_rfl)⟩⟩
theorem ty80 : (.func : TI).ok Tryz.prog 80 := ⟨fps Tryz.prog 80, frs Tryz.prog 80, fvr Tryz.prog 80, ⟨(by kernel_rfl), (fun _ h => by cases h), (fun _ _ h => by cases h), (by kernel_rfl)⟩⟩
theorem ty81 : (.func : TI).ok Tryz.prog 81 := ⟨fps Tryz.prog 81, frs Tryz.prog 81, fvr Tryz.prog 81, ⟨(by kernel_rfl), (fun _ h => by cases h), (fun _ _ h => by cases h), (by kernel_rfl)⟩⟩
theorem ty82 : (.func : TI).ok Tryz.prog 82 := ⟨fps Tryz.prog 82, frs Tryz.prog 82, fvr Tryz.prog 82, ⟨(by kernel_rfl), (fun _ h => by cases h), (fun _ _ h => by cases h), (by kernel_rfl)⟩⟩
theorem ty83 : (.func : TI).ok Tryz.prog 83 := ⟨fps Tryz.prog 83, frs Tryz.prog 83, fvr Tryz.prog 83, ⟨(by kernel_rfl), (fun _ h => by cases h), (fun _ _ h => by cases h), (by kernel_rfl)⟩⟩
theorem ty84 : (.func : TI).ok Tryz.prog 84 := ⟨fps Tryz.prog 84, frs Tryz.prog 84, fvr Tryz.prog 84, ⟨(by kernel_rfl), (fun _ h => by cases h), (fun _ _ h => by cases h), (by kernel_rfl)⟩⟩
theorem ty85 : (.func : TI).ok Tryz.prog 85 := ⟨fps Tryz.prog 85, frs Tryz.prog 85, fvr Tryz.prog 85, ⟨(by kernel_rfl), (fun _ h => by cases h), (fun _ _ h => by cases h), (by kernel_rfl)⟩⟩
theorem ty86 : (.func : TI).ok Tryz.prog 86 := ⟨fps Tryz.prog 86, frs Tryz.prog 86, fvr Tryz.prog 86, ⟨(by kernel_rfl), (fun _ h => by cases h), (fun _ _ h => by cases h), (by kernel_rfl)⟩⟩
theorem ty87 : (.func : TI).ok Tryz.prog 87 := ⟨fps Tryz.prog 87, frs Tryz.prog 87, fvr Tryz.prog 87, ⟨(by kernel_rfl), (fun _ h => by cases h), (fun _ _ h => by cases h), (by kernel_rfl)⟩⟩
theorem ty88 : (.func : TI).ok Tryz.prog 88 := ⟨fps Tryz.prog 88, frs Tryz.prog 88, fvr Tryz.prog 88, ⟨(by kernel_rfl), (fun _ h => by cases h), (fun _ _ h => by cases h), (by kernel_rfl)⟩⟩
theorem ty89 : (.func : TI).ok Tryz.prog 89 := ⟨fps Tryz.prog 89, frs Tryz.prog 89, fvr Tryz.prog 89, ⟨(by kernel_rfl), (fun _ h => by cases h), (fun _ _ h => by cases h), (by kernel_rfl)⟩⟩
theorem ty90 : (.func : TI).ok Tryz.prog 90 := ⟨fps Tryz.prog 90, frs Tryz.prog 90, fvr Tryz.prog 90, ⟨(by kernel_rfl), (fun _ h => by cases h), (fun _ _ h => by cases h), (by kernel_rfl)⟩⟩
theorem ty91 : (.func : TI).ok Tryz.prog 91 := ⟨fps Tryz.prog 91, frs Tryz.prog 91, fvr Tryz.prog 91, ⟨(by kernel_rfl), (fun _ h => by cases h), (fun _ _ h => by cases h), (by kernel_rfl)⟩⟩
theorem ty92 : (.func : TI).ok Tryz.prog 92 := ⟨fps Tryz.prog 92, frs Tryz.prog 92, fvr Tryz.prog 92, ⟨(by kernel_rfl), (fun _ h => by cases h), (fun _ _ h => by cases h), (by kernel_rfl)⟩⟩
theorem ty93 : (.func : TI).ok Tryz.prog 93 := ⟨fps Tryz.prog 93, frs Tryz.prog 93, fvr Tryz.prog 93, ⟨(by kernel_rfl), (fun _ h => by cases h), (fun _ _ h => by cases h), (by kernel_rfl)⟩⟩
theorem ty94 : (.func : TI).ok Tryz.prog 94 := ⟨fps Tryz.prog 94, frs Tryz.prog 94, fvr Tryz.prog 94, ⟨(by kernel_rfl), (fun _ h => by cases h), (fun _ _ h => by cases h), (by kernel_rfl)⟩⟩
theorem ty95 : (.func : TI).ok Tryz.prog 95 := ⟨fps Tryz.prog 95, frs Tryz.prog 95, fvr Tryz.prog 95, ⟨(by kernel_rfl), (fun _ h => by cases h), (fun _ _ h => by cases h), (by kernel_rfl)⟩⟩
theorem ty96 : (.func : TI).ok Tryz.prog 96 := ⟨fps Tryz.prog 96, frs Tryz.prog 96, fvr Tryz.prog 96, ⟨(by kernel_rfl), (fun _ h => by cases h), (fun _ _ h => by cases h), (by kernel_rfl)⟩⟩
theorem ty97 : (.func : TI).ok Tryz.prog 97 := ⟨fps Tryz.prog 97, frs Tryz.prog 97, fvr Tryz.prog 97, ⟨(by kernel_rfl), (fun _ h => by cases h), (fun _ _ h => by cases h), (by kernel_rfl)⟩⟩
theorem ty98 : (.func : TI).ok Tryz.prog 98 := ⟨fps Tryz.prog 98, frs Tryz.prog 98, fvr Tryz.prog 98, ⟨(by kernel_rfl), (fun _ h => by cases h), (fun _ _ h => by cases h), (by kernel_rfl)⟩⟩
theorem ty99 : (.func : TI).ok Tryz.prog 99 := ⟨fps Tryz.prog 99, frs Tryz.prog 99, fvr Tryz.prog 99, ⟨(by kernel_rfl), (fun _ h => by cases h), (fun _ _ h => by cases h), (by kernel_rfl)⟩⟩
theorem ty100 : (.func : TI).ok Tryz.prog 100 := ⟨fps Tryz.prog 100, frs Tryz.prog 100, fvr Tryz.prog 100, ⟨(by kernel_rfl), (fun _ h => by cases h), (fun _ _ h => by cases h), (by kernel_rfl)⟩⟩
theorem ty101 : (.func : TI).ok Tryz.prog 101 := ⟨fps Tryz.prog 101, frs Tryz.prog 101, fvr Tryz.prog 101, ⟨(by kernel_rfl), (fun _ h => by cases h), (fun _ _ h => by cases h), (by kernel_rfl)⟩⟩
theorem ty102 : (.func : TI).ok Tryz.prog 102 := ⟨fps Tryz.prog 102, frs Tryz.prog 102, fvr Tryz.prog 102, ⟨(by kernel_rfl), (fun _ h => by cases h), (fun _ _ h => by cases h), (by kernel_rfl)⟩⟩
theorem ty103 : (.func : TI).ok Tryz.prog 103 := ⟨fps Tryz.prog 103, frs Tryz.prog 103, fvr Tryz.prog 103, ⟨(by kernel_rfl), (fun _ h => by cases h), (fun _ _ h => by cases h), (by kernel_rfl)⟩⟩
theorem ty104 : (.func : TI).ok Tryz.prog 104 := ⟨fps Tryz.prog 104, frs Tryz.prog 104, fvr Tryz.prog 104, ⟨(by kernel_rfl), (fun _ h => by cases h), (fun _ _ h => by cases h), (by kernel_rfl)⟩⟩
theorem ty107 : (.func : TI).ok Tryz.prog 107 := ⟨fps Tryz.prog 107, frs Tryz.prog 107, fvr Tryz.prog 107, ⟨(by kernel_rfl), (fun _ h => by cases h), (fun _ _ h => by cases h), (by kernel_rfl)⟩⟩
theorem ty108 : (.slice 3 .i64 8 : TI).ok Tryz.prog 108 := ⟨⟨(by kernel_rfl), (fun _ h => by cases h), (fun _ _ h => by cases h), (by kernel_rfl)⟩, .int .i64 0, (by kernel_rfl), rfl⟩
theorem ty111 : (.func : TI).ok Tryz.prog 111 := ⟨fps Tryz.prog 111, frs Tryz.prog 111, fvr Tryz.prog 111, ⟨(by kernel_rfl), (fun _ h => by cases h), (fun _ _ h => by cases h), (by kernel_rfl)⟩⟩
theorem ty113 : (.func : TI).ok Tryz.prog 113 := ⟨fps Tryz.prog 113, frs Tryz.prog 113, fvr Tryz.prog 113, ⟨(by kernel_rfl), (fun _ h => by cases h), (fun _ _ h => by cases h), (by kernel_rfl)⟩⟩
theorem ty116 : (.func : TI).ok Tryz.prog 116 := ⟨fps Tryz.prog 116, frs Tryz.prog 116, fvr Tryz.prog 116, ⟨(by kernel_rfl), (fun _ h => by cases h), (fun _ _ h => by cases h), (by kernel_rfl)⟩⟩
theorem ty117 : (.func : TI).ok Tryz.prog 117 := ⟨fps Tryz.prog 117, frs Tryz.prog 117, fvr Tryz.prog 117, ⟨(by kernel_rfl), (fun _ h => by cases h), (fun _ _ h => by cases h), (by kernel_rfl)⟩⟩
theorem ty118 : (.func : TI).ok Tryz.prog 118 := ⟨fps Tryz.prog 118, frs Tryz.prog 118, fvr Tryz.prog 118, ⟨(by kernel_rfl), (fun _ h => by cases h), (fun _ _ h => by cases h), (by kernel_rfl)⟩⟩
theorem ty119 : (.func : TI).ok Tryz.prog 119 := ⟨fps Tryz.prog 119, frs Tryz.prog 119, fvr Tryz.prog 119, ⟨(by kernel_rfl), (fun _ h => by cases h), (fun _ _ h => by cases h), (by kernel_rfl)⟩⟩
theorem ty121 : (.func : TI).ok Tryz.prog 121 := ⟨fps Tryz.prog 121, frs Tryz.prog 121, fvr Tryz.prog 121, ⟨(by kernel_rfl), (fun _ h => by cases h), (fun _ _ h => by cases h), (by kernel_rfl)⟩⟩
theorem ty122 : (.func : TI).ok Tryz.prog 122 := ⟨fps Tryz.prog 122, frs Tryz.prog 122, fvr Tryz.prog 122, ⟨(by kernel_rfl), (fun _ h => by cases h), (fun _ _ h => by cases h), (by kernel_rfl)⟩⟩
theorem ty123 : (.func : TI).ok Tryz.prog 123 := ⟨fps Tryz.prog 123, frs Tryz.prog 123, fvr Tryz.prog 123, ⟨(by kernel_rfl), (fun _ h => by cases h), (fun _ _ h => by cases h), (by kernel_rfl)⟩⟩
theorem ty124 : (.func : TI).ok Tryz.prog 124 := ⟨fps Tryz.prog 124, frs Tryz.prog 124, fvr Tryz.prog 124, ⟨(by kernel_rfl), (fun _ h => by cases h), (fun _ _ h => by cases h), (by kernel_rfl)⟩⟩
theorem ty125 : (.func : TI).ok Tryz.prog 125 := ⟨fps Tryz.prog 125, frs Tryz.prog 125, fvr Tryz.prog 125, ⟨(by kernel_rfl), (fun _ h => by cases h), (fun _ _ h => by cases h), (by kernel_rfl)⟩⟩
theorem ty126 : (.func : TI).ok Tryz.prog 126 := ⟨fps Tryz.prog 126, frs Tryz.prog 126, fvr Tryz.prog 126, ⟨(by kernel_rfl), (fun _ h => by cases h), (fun _ _ h => by cases h), (by kernel_rfl)⟩⟩
theorem ty127 : (.func : TI).ok Tryz.prog 127 := ⟨fps Tryz.prog 127, frs Tryz.prog 127, fvr Tryz.prog 127, ⟨(by kernel_rfl), (fun _ h => by cases h), (fun _ _ h => by cases h), (by kernel_rfl)⟩⟩
theorem ty128 : (.func : TI).ok Tryz.prog 128 := ⟨fps Tryz.prog 128, frs Tryz.prog 128, fvr Tryz.prog 128, ⟨(by kernel_rfl), (fun _ h => by cases h), (fun _ _ h => by cases h), (by kernel_rfl)⟩⟩
theorem ty129 : (.func : TI).ok Tryz.prog 129 := ⟨fps Tryz.prog 129, frs Tryz.prog 129, fvr Tryz.prog 129, ⟨(by kernel_rfl), (fun _ h => by cases h), (fun _ _ h => by cases h), (by kernel_rfl)⟩⟩
theorem ty130 : (.func : TI).ok Tryz.prog 130 := ⟨fps Tryz.prog 130, frs Tryz.prog 130, fvr Tryz.prog 130, ⟨(by kernel_rfl), (fun _ h => by cases h), (fun _ _ h => by cases h), (by kernel_rfl)⟩⟩
theorem ty131 : (.func : TI).ok Tryz.prog 131 := ⟨fps Tryz.prog 131, frs Tryz.prog 131, fvr Tryz.prog 131, ⟨(by kernel_rfl), (fun _ h => by cases h), (fun _ _ h => by cases h), (by kernel_rfl)⟩⟩
theorem ty132 : (.func : TI).ok Tryz.prog 132 := ⟨fps Tryz.prog 132, frs Tryz.prog 132, fvr Tryz.prog 132, ⟨(by kernel_rfl), (fun _ h => by cases h), (fun _ _ h => by cases h), (by kernel_rfl)⟩⟩
theorem ty133 : (.func : TI).ok Tryz.prog 133 := ⟨fps Tryz.prog 133, frs Tryz.prog 133, fvr Tryz.prog 133, ⟨(by kernel_rfl), (fun _ h => by cases h), (fun _ _ h => by cases h), (by kernel_rfl)⟩⟩
theorem ty134 : (.func : TI).ok Tryz.prog 134 := ⟨fps Tryz.prog 134, frs Tryz.prog 134, fvr Tryz.prog 134, ⟨(by kernel_rfl), (fun _ h => by cases h), (fun _ _ h => by cases h), (by kernel_rfl)⟩⟩
theorem ty135 : (.func : TI).ok Tryz.prog 135 := ⟨fps Tryz.prog 135, frs Tryz.prog 135, fvr Tryz.prog 135, ⟨(by kernel_rfl), (fun _ h => by cases h), (fun _ _ h => by cases h), (by kernel_rfl)⟩⟩
theorem ty136 : (.func : TI).ok Tryz.prog 136 := ⟨fps Tryz.prog 136, frs Tryz.prog 136, fvr Tryz.prog 136, ⟨(by kernel_rfl), (fun _ h => by cases h), (fun _ _ h => by cases h), (by kernel_rfl)⟩⟩
theorem ty137 : (.func : TI).ok Tryz.prog 137 := ⟨fps Tryz.prog 137, frs Tryz.prog 137, fvr Tryz.prog 137, ⟨(by kernel_rfl), (fun _ h => by cases h), (fun _ _ h => by cases h), (by kernel_rfl)⟩⟩
theorem ty138 : (.func : TI).ok Tryz.prog 138 := ⟨fps Tryz.prog 138, frs Tryz.prog 138, fvr Tryz.prog 138, ⟨(by kernel_rfl), (fun _ h => by cases h), (fun _ _ h => by cases h), (by kernel_rfl)⟩⟩
theorem ty139 : (.slice 3 .i64 8 : TI).ok Tryz.prog 139 := ⟨⟨(by kernel_rfl), (fun _ h => by cases h), (fun _ _ h => by cases h), (by kernel_rfl)⟩, .int .i64 0, (by kernel_rfl), rfl⟩
theorem ty141 : (.func : TI).ok Tryz.prog 141 := ⟨fps Tryz.prog 141, frs Tryz.prog 141, fvr Tryz.prog 141, ⟨(by kernel_rfl), (fun _ h => by cases h), (fun _ _ h => by cases h), (by kernel_rfl)⟩⟩
theorem ty142 : (.func : TI).ok Tryz.prog 142 := ⟨fps Tryz.prog 142, frs Tryz.prog 142, fvr Tryz.prog 142, ⟨(by kernel_rfl), (fun _ h => by cases h), (fun _ _ h => by cases h), (by kernel_rfl)⟩⟩
theorem ty143 : (.func : TI).ok Tryz.prog 143 := ⟨fps Tryz.prog 143, frs Tryz.prog 143, fvr Tryz.prog 143, ⟨(by kernel_rfl), (fun _ h => by cases h), (fun _ _ h => by cases h), (by kernel_rfl)⟩⟩
theorem ty144 : (.func : TI).ok Tryz.prog 144 := ⟨fps Tryz.prog 144, frs Tryz.prog 144, fvr Tryz.prog 144, ⟨(by kernel_rfl), (fun _ h => by cases h), (fun _ _ h => by cases h), (by kernel_rfl)⟩⟩
theorem ty145 : (.func : TI).ok Tryz.prog 145 := ⟨fps Tryz.prog 145, frs Tryz.prog 145, fvr Tryz.prog 145, ⟨(by kernel_rfl), (fun _ h => by cases h), (fun _ _ h => by cases h), (by kernel_rfl)⟩⟩
theorem ty147 : (.func : TI).ok Tryz.prog 147 := ⟨fps Tryz.prog 147, frs Tryz.prog 147, fvr Tryz.prog 147, ⟨(by kernel_rfl), (fun _ h => by cases h), (fun _ _ h => by cases h), (by kernel_rfl)⟩⟩
theorem ty149 : (.func : TI).ok Tryz.prog 149 := ⟨fps Tryz.prog 149, frs Tryz.prog 149, fvr Tryz.prog 149, ⟨(by kernel_rfl), (fun _ h => by cases h), (fun _ _ h => by cases h), (by kernel_rfl)⟩⟩
theorem ty150 : (.func : TI).ok Tryz.prog 150 := ⟨fps Tryz.prog 150, frs Tryz.prog 150, fvr Tryz.prog 150, ⟨(by kernel_rfl), (fun _ h => by cases h), (fun _ _ h => by cases h), (by kernel_rfl)⟩⟩
theorem ty151 : (.func : TI).ok Tryz.prog 151 := ⟨fps Tryz.prog 151, frs Tryz.prog 151, fvr Tryz.prog 151, ⟨(by kernel_rfl), (fun _ h => by cases h), (fun _ _ h => by cases h), (by kernel_rfl)⟩⟩
theorem ty152 : (.func : TI).ok Tryz.prog 152 := ⟨fps Tryz.prog 152, frs Tryz.prog 152, fvr Tryz.prog 152, ⟨(by kernel_rfl), (fun _ h => by cases h), (fun _ _ h => by cases h), (by kernel_rfl)⟩⟩
theorem ty153 : (.ptr : TI).ok Tryz.prog 153 := ⟨110, ⟨(by kernel_rfl), (fun _ h => by cases h), (fun _ _ h => by cases h), (by kernel_rfl)⟩⟩
theorem ty154 : (.func : TI).ok Tryz.prog 154 := ⟨fps Tryz.prog 154, frs Tryz.prog 154, fvr Tryz.prog 154, ⟨(by kernel_rfl), (fun _ h => by cases h), (fun _ _ h => by cases h), (by kernel_rfl)⟩⟩
theorem ty155 : (.func : TI).ok Tryz.prog 155 := ⟨fps Tryz.prog 155, frs Tryz.prog 155, fvr Tryz.prog 155, ⟨(by kernel_rfl), (fun _ h => by cases h), (fun _ _ h => by cases h), (by kernel_rfl)⟩⟩
theorem ty156 : (.func : TI).ok Tryz.prog 156 := ⟨fps Tryz.prog 156, frs Tryz.prog 156, fvr Tryz.prog 156, ⟨(by kernel_rfl), (fun _ h => by cases h), (fun _ _ h => by cases h), (by kernel_rfl)⟩⟩
theorem ty157 : (.int .u64 : TI).ok Tryz.prog 157 := ⟨(by kernel_rfl), (fun _ h => by cases h), (fun _ _ h => by cases h), (by kernel_rfl)⟩
theorem ty158 : (.func : TI).ok Tryz.prog 158 := ⟨fps Tryz.prog 158, frs Tryz.prog 158, fvr Tryz.prog 158, ⟨(by kernel_rfl), (fun _ h => by cases h), (fun _ _ h => by cases h), (by kernel_rfl)⟩⟩
theorem ty159 : (.func : TI).ok Tryz.prog 159 := ⟨fps Tryz.prog 159, frs Tryz.prog 159, fvr Tryz.prog 159, ⟨(by kernel_rfl), (fun _ h => by cases h), (fun _ _ h => by cases h), (by kernel_rfl)⟩⟩
theorem ty160 : (.func : TI).ok Tryz.prog 160 := ⟨fps Tryz.prog 160, frs Tryz.prog 160, fvr Tryz.prog 160, ⟨(by kernel_rfl), (fun _ h => by cases h), (fun _ _ h => by cases h), (by kernel_rfl)⟩⟩
theorem ty161 : (.func : TI).ok Tryz.prog 161 := ⟨fps Tryz.prog 161, frs Tryz.prog 161, fvr Tryz.prog 161, ⟨(by kernel_rfl), (fun _ h => by cases h), (fun _ _ h => by cases h), (by kernel_rfl)⟩⟩
theorem ty162 : (.func : TI).ok Tryz.prog 162 := ⟨fps Tryz.prog 162, frs Tryz.prog 162, fvr Tryz.prog 162, ⟨(by kernel_rfl), (fun _ h => by cases h), (fun _ _ h => by cases h), (by kernel_rfl)⟩⟩
theorem ty163 : (.func : TI).ok Tryz.prog 163 := ⟨fps Tryz.prog 163, frs Tryz.prog 163, fvr Tryz.prog 163, ⟨(by kernel_rfl), (fun _ h => by cases h), (fun _ _ h => by cases h), (by kernel_rfl)⟩⟩
theorem ty164 : (.func : TI).ok Tryz.prog 164 := ⟨fps Tryz.prog 164, frs Tryz.prog 164, fvr Tryz.prog 164, ⟨(by kernel_rfl), (fun _ h => by cases h), (fun _ _ h => by cases h), (by kernel_rfl)⟩⟩
theorem ty165 : (.func : TI).ok Tryz.prog 165 := ⟨fps Tryz.prog 165, frs Tryz.prog 165, fvr Tryz.prog 165, ⟨(by kernel_rfl), (fun _ h => by cases h), (fun _ _ h => by cases h), (by kernel_rfl)⟩⟩
theorem ty166 : (.func : TI).ok Tryz.prog 166 := ⟨fps Tryz.prog 166, frs Tryz.prog 166, fvr Tryz.prog 166, ⟨(by kernel_rfl), (fun _ h => by cases h), (fun _ _ h => by cases h), (by kernel_rfl)⟩⟩
theorem ty167 : (.func : TI).ok Tryz.prog 167 := ⟨fps Tryz.prog 167, frs Tryz.prog 167, fvr Tryz.prog 167, ⟨(by kernel_rfl), (fun _ h => by cases h), (fun _ _ h => by cases h), (by kernel_rfl)⟩⟩
theorem ty168 : (.func : TI).ok Tryz.prog 168 := ⟨fps Tryz.prog 168, frs Tryz.prog 168, fvr Tryz.prog 168, ⟨(by kernel_rfl), (fun _ h => by cases h), (fun _ _ h => by cases h), (by kernel_rfl)⟩⟩
theorem ty169 : (.func : TI).ok Tryz.prog 169 := ⟨fps Tryz.prog 169, frs Tryz.prog 169, fvr Tryz.prog 169, ⟨(by kernel_rfl), (fun _ h => by cases h), (fun _ _ h => by cases h), (by kernel_rfl)⟩⟩
theorem ty170 : (.func : TI).ok Tryz.prog 170 := ⟨fps Tryz.prog 170, frs Tryz.prog 170, fvr Tryz.prog 170, ⟨(by kernel_rfl), (fun _ h => by cases h), (fun _ _ h => by cases h), (by kernel_rfl)⟩⟩
theorem ty171 : (.func : TI).ok Tryz.prog 171 := ⟨fps Tryz.prog 171, frs Tryz.prog 171, fvr Tryz.prog 171, ⟨(by kernel_rfl), (fun _ h => by cases h), (fun _ _ h => by cases h), (by kernel_rfl)⟩⟩
theorem ty172 : (.func : TI).ok Tryz.prog 172 := ⟨fps Tryz.prog 172, frs Tryz.prog 172, fvr Tryz.prog 172, ⟨(by kernel_rfl), (fun _ h => by cases h), (fun _ _ h => by cases h), (by kernel_rfl)⟩⟩
theorem ty173 : (.func : TI).ok Tryz.prog 173 := ⟨fps Tryz.prog 173, frs Tryz.prog 173, fvr Tryz.prog 173, ⟨(by kernel_rfl), (fun _ h => by cases h), (fun _ _ h => by cases h), (by kernel_rfl)⟩⟩
theorem ty175 : (.func : TI).ok Tryz.prog 175 := ⟨fps Tryz.prog 175, frs Tryz.prog 175, fvr Tryz.prog 175, ⟨(by kernel_rfl), (fun _ h => by cases h), (fun _ _ h => by cases h), (by kernel_rfl)⟩⟩
theorem ty176 : (.func : TI).ok Tryz.prog 176 := ⟨fps Tryz.prog 176, frs Tryz.prog 176, fvr Tryz.prog 176, ⟨(by kernel_rfl), (fun _ h => by cases h), (fun _ _ h => by cases h), (by kernel_rfl)⟩⟩
theorem ty177 : (.func : TI).ok Tryz.prog 177 := ⟨fps Tryz.prog 177, frs Tryz.prog 177, fvr Tryz.prog 177, ⟨(by kernel_rfl), (fun _ h => by cases h), (fun _ _ h => by cases h), (by kernel_rfl)⟩⟩
theorem ty178 : (.int .i64 : TI).ok Tryz.prog 178 := ⟨(by kernel_rfl), (fun _ h => by cases h), (fun _ _ h => by cases h), (by kernel_rfl)⟩
theorem ty180 : (.func : TI).ok Tryz.prog 180 := ⟨fps Tryz.prog 180, frs Tryz.prog 180, fvr Tryz.prog 180, ⟨(by kernel_rfl), (fun _ h => by cases h), (fun _ _ h => by cases h), (by kernel_rfl)⟩⟩
theorem ty181 : (.func : TI).ok Tryz.prog 181 := ⟨fps Tryz.prog 181, frs Tryz.prog 181, fvr Tryz.prog 181, ⟨(by kernel_rfl), (fun _ h => by cases h), (fun _ _ h => by cases h), (by kernel_rfl)⟩⟩
theorem ty182 : (.func : TI).ok Tryz.prog 182 := ⟨fps Tryz.prog 182, frs Tryz.prog 182, fvr Tryz.prog 182, ⟨(by kernel_rfl), (fun _ h => by cases h), (fun _ _ h => by cases h), (by kernel_rfl)⟩⟩
theorem ty183 : (.func : TI).ok Tryz.prog 183 := ⟨fps Tryz.prog 183, frs Tryz.prog 183, fvr Tryz.prog 183, ⟨(by kernel_rfl), (fun _ h => by cases h), (fun _ _ h => by cases h), (by kernel_rfl)⟩⟩
theorem ty184 : (.func : TI).ok Tryz.prog 184 := ⟨fps Tryz.prog 184, frs Tryz.prog 184, fvr Tryz.prog 184, ⟨(by kernel_rfl), (fun _ h => by cases h), (fun _ _ h => by cases h), (by kernel_rfl)⟩⟩
theorem ty185 : (.func : TI).ok Tryz.prog 185 := ⟨fps Tryz.prog 185, frs Tryz.prog 185, fvr Tryz.prog 185, ⟨(by kernel_rfl), (fun _ h => by cases h), (fun _ _ h => by cases h), (by kernel_rfl)⟩⟩
theorem ty186 : (.int .u32 : TI).ok Tryz.prog 186 := ⟨(by kernel_rfl), (fun _ h => by cases h), (fun _ _ h => by cases h), (by kernel_rfl)⟩
theorem ty187 : (.func : TI).ok Tryz.prog 187 := ⟨fps Tryz.prog 187, frs Tryz.prog 187, fvr Tryz.prog 187, ⟨(by kernel_rfl), (fun _ h => by cases h), (fun _ _ h => by cases h), (by kernel_rfl)⟩⟩
theorem ty188 : (.int .u64 : TI).ok Tryz.prog 188 := ⟨(by kernel_rfl), (fun _ h => by cases h), (fun _ _ h => by cases h), (by kernel_rfl)⟩
theorem ty189 : (.func : TI).ok Tryz.prog 189 := ⟨fps Tryz.prog 189, frs Tryz.prog 189, fvr Tryz.prog 189, ⟨(by kernel_rfl), (fun _ h => by cases h), (fun _ _ h => by cases h), (by kernel_rfl)⟩⟩
theorem ty190 : (.func : TI).ok Tryz.prog 190 := ⟨fps Tryz.prog 190, frs Tryz.prog 190, fvr Tryz.prog 190, ⟨(by kernel_rfl), (fun _ h => by cases h), (fun _ _ h => by cases h), (by kernel_rfl)⟩⟩
theorem ty191 : (.func : TI).ok Tryz.prog 191 := ⟨fps Tryz.prog 191, frs Tryz.prog 191, fvr Tryz.prog 191, ⟨(by kernel_rfl), (fun _ h => by cases h), (fun _ _ h => by cases h), (by kernel_rfl)⟩⟩
theorem ty192 : (.func : TI).ok Tryz.prog 192 := ⟨fps Tryz.prog 192, frs Tryz.prog 192, fvr Tryz.prog 192, ⟨(by kernel_rfl), (fun _ h => by cases h), (fun _ _ h => by cases h), (by kernel_rfl)⟩⟩
theorem ty193 : (.func : TI).ok Tryz.prog 193 := ⟨fps Tryz.prog 193, frs Tryz.prog 193, fvr Tryz.prog 193, ⟨(by kernel_rfl), (fun _ h => by cases h), (fun _ _ h => by cases h), (by kernel_rfl)⟩⟩
theorem ty194 : (.func : TI).ok Tryz.prog 194 := ⟨fps Tryz.prog 194, frs Tryz.prog 194, fvr Tryz.prog 194, ⟨(by kernel_rfl), (fun _ h => by cases h), (fun _ _ h => by cases h), (by kernel_rfl)⟩⟩
theorem ty195 : (.func : TI).ok Tryz.prog 195 := ⟨fps Tryz.prog 195, frs Tryz.prog 195, fvr Tryz.prog 195, ⟨(by kernel_rfl), (fun _ h => by cases h), (fun _ _ h => by cases h), (by kernel_rfl)⟩⟩
theorem ty196 : (.func : TI).ok Tryz.prog 196 := ⟨fps Tryz.prog 196, frs Tryz.prog 196, fvr Tryz.prog 196, ⟨(by kernel_rfl), (fun _ h => by cases h), (fun _ _ h => by cases h), (by kernel_rfl)⟩⟩
theorem ty197 : (.func : TI).ok Tryz.prog 197 := ⟨fps Tryz.prog 197, frs Tryz.prog 197, fvr Tryz.prog 197, ⟨(by kernel_rfl), (fun _ h => by cases h), (fun _ _ h => by cases h), (by kernel_rfl)⟩⟩
theorem ty198 : (.func : TI).ok Tryz.prog 198 := ⟨fps Tryz.prog 198, frs Tryz.prog 198, fvr Tryz.prog 198, ⟨(by kernel_rfl), (fun _ h => by cases h), (fun _ _ h => by cases h), (by kernel_rfl)⟩⟩
theorem ty199 : (.func : TI).ok Tryz.prog 199 := ⟨fps Tryz.prog 199, frs Tryz.prog 199, fvr Tryz.prog 199, ⟨(by kernel_rfl), (fun _ h => by cases h), (fun _ _ h => by cases h), (by kernel_rfl)⟩⟩
theorem ty200 : (.func : TI).ok Tryz.prog 200 := ⟨fps Tryz.prog 200, frs Tryz.prog 200, fvr Tryz.prog 200, ⟨(by kernel_rfl), (fun _ h => by cases h), (fun _ _ h => by cases h), (by kernel_rfl)⟩⟩
theorem ty201 : (.func : TI).ok Tryz.prog 201 := ⟨fps Tryz.prog 201, frs Tryz.prog 201, fvr Tryz.prog 201, ⟨(by kernel_rfl), (fun _ h => by cases h), (fun _ _ h => by cases h), (by kernel_rfl)⟩⟩
theorem ty202 : (.int .u64 : TI).ok Tryz.prog 202 := ⟨(by kernel_rfl), (fun _ h => by cases h), (fun _ _ h => by cases h), (by kernel_rfl)⟩
theorem ty203 : (.func : TI).ok Tryz.prog 203 := ⟨fps Tryz.prog 203, frs Tryz.prog 203, fvr Tryz.prog 203, ⟨(by kernel_rfl), (fun _ h => by cases h), (fun _ _ h => by cases h), (by kernel_rfl)⟩⟩
theorem ty204 : (.func : TI).ok Tryz.prog 204 := ⟨fps Tryz.prog 204, frs Tryz.prog 204, fvr Tryz.prog 204, ⟨(by kernel_rfl), (fun _ h => by cases h), (fun _ _ h => by cases h), (by kernel_rfl)⟩⟩
theorem ty205 : (.func : TI).ok Tryz.prog 205 := ⟨fps Tryz.prog 205, frs Tryz.prog 205, fvr Tryz.prog 205, ⟨(by kernel_rfl), (fun _ h => by cases h), (fun _ _ h => by cases h), (by kernel_rfl)⟩⟩
theorem ty206 : (.ptr : TI).ok Tryz.prog 206 := ⟨3, ⟨(by kernel_rfl), (fun _ h => by cases h), (fun _ _ h => by cases h), (by kernel_rfl)⟩⟩
theorem ty207 : (.func : TI).ok Tryz.prog 207 := ⟨fps Tryz.prog 207, frs Tryz.prog 207, fvr Tryz.prog 207, ⟨(by kernel_rfl), (fun _ h => by cases h), (fun _ _ h => by cases h), (by kernel_rfl)⟩⟩
theorem ty209 : (.func : TI).ok Tryz.prog 209 := ⟨fps Tryz.prog 209, frs Tryz.prog 209, fvr Tryz.prog 209, ⟨(by kernel_rfl), (fun _ h => by cases h), (fun _ _ h => by cases h), (by kernel_rfl)⟩⟩
theorem ty210 : (.func : TI).ok Tryz.prog 210 := ⟨fps Tryz.prog 210, frs Tryz.prog 210, fvr Tryz.prog 210, ⟨(by kernel_rfl), (fun _ h => by cases h), (fun _ _ h => by cases h), (by kernel_rfl)⟩⟩
theorem ty211 : (.func : TI).ok Tryz.prog 211 := ⟨fps Tryz.prog 211, frs Tryz.prog 211, fvr Tryz.prog 211, ⟨(by kernel_rfl), (fun _ h => by cases h), (fun _ _ h => by cases h), (by kernel_rfl)⟩⟩
theorem ty212 : (.func : TI).ok Tryz.prog 212 := ⟨fps Tryz.prog 212, frs Tryz.prog 212, fvr Tryz.prog 212, ⟨(by kernel_rfl), (fun _ h => by cases h), (fun _ _ h => by cases h), (by kernel_rfl)⟩⟩
theorem ty213 : (.ptr : TI).ok Tryz.prog 213 := ⟨202, ⟨(by kernel_rfl), (fun _ h => by cases h), (fun _ _ h => by cases h), (by kernel_rfl)⟩⟩
theorem ty215 : (.func : TI).ok Tryz.prog 215 := ⟨fps Tryz.prog 215, frs Tryz.prog 215, fvr Tryz.prog 215, ⟨(by kernel_rfl), (fun _ h => by cases h), (fun _ _ h => by cases h), (by kernel_rfl)⟩⟩
theorem ty216 : (.func : TI).ok Tryz.prog 216 := ⟨fps Tryz.prog 216, frs Tryz.prog 216, fvr Tryz.prog 216, ⟨(by kernel_rfl), (fun _ h => by cases h), (fun _ _ h => by cases h), (by kernel_rfl)⟩⟩
theorem ty221 : (.func : TI).ok Tryz.prog 221 := ⟨fps Tryz.prog 221, frs Tryz.prog 221, fvr Tryz.prog 221, ⟨(by kernel_rfl), (fun _ h => by cases h), (fun _ _ h => by cases h), (by kernel_rfl)⟩⟩
theorem ty223 : (.func : TI).ok Tryz.prog 223 := ⟨fps Tryz.prog 223, frs Tryz.prog 223, fvr Tryz.prog 223, ⟨(by kernel_rfl), (fun _ h => by cases h), (fun _ _ h => by cases h), (by kernel_rfl)⟩⟩
theorem ty224 : (.func : TI).ok Tryz.prog 224 := ⟨fps Tryz.prog 224, frs Tryz.prog 224, fvr Tryz.prog 224, ⟨(by kernel_rfl), (fun _ h => by cases h), (fun _ _ h => by cases h), (by kernel_rfl)⟩⟩
theorem ty230 : (.int .u8 : TI).ok Tryz.prog 230 := ⟨(by kernel_rfl), (fun _ h => by cases h), (fun _ _ h => by cases h), (by kernel_rfl)⟩
theorem ty231 : (.int .u8 : TI).ok Tryz.prog 231 := ⟨(by kernel_rfl), (fun _ h => by cases h), (fun _ _ h => by cases h), (by kernel_rfl)⟩
theorem ty232 : (.func : TI).ok Tryz.prog 232 := ⟨fps Tryz.prog 232, frs Tryz.prog 232, fvr Tryz.prog 232, ⟨(by kernel_rfl), (fun _ h => by cases h), (fun _ _ h => by cases h), (by kernel_rfl)⟩⟩
theorem ty233 : (.ptr : TI).ok Tryz.prog 233 := ⟨5, ⟨(by kernel_rfl), (fun _ h => by cases h), (fun _ _ h => by cases h), (by kernel_rfl)⟩⟩
theorem ty234 : (.int .i32 : TI).ok Tryz.prog 234 := ⟨(by kernel_rfl), (fun _ h => by cases h), (fun _ _ h => by cases h), (by kernel_rfl)⟩
theorem ty235 : (.int .i32 : TI).ok Tryz.prog 235 := ⟨(by kernel_rfl), (fun _ h => by cases h), (fun _ _ h => by cases h), (by kernel_rfl)⟩
theorem ty7 : (.struct [(0, 1), (1, 1), (2, 1), (3, 1)] 4 [.d (.int .i64 0), .d (.int .i64 0), .d (.bool false), .d (.int .u8 0)] false : TI).ok Tryz.prog 7 := ⟨jzn Tryz.prog 7, (by kernel_rfl), ⟨(by kernel_rfl), (by decide)⟩, ⟨#[.int .i64 0, .int .i64 0, .bool false, .int .u8 0], (by kernel_rfl), (by kernel_rfl), rfl⟩, (fun h => by cases h)⟩
theorem ty8 : (.struct [(0, 1), (1, 1), (2, 1), (3, 1)] 4 [.d (.int .i64 0), .d (.int .i64 0), .d (.bool false), .d (.int .u8 0)] false : TI).ok Tryz.prog 8 := ⟨jzn Tryz.prog 8, (by kernel_rfl), ⟨(by kernel_rfl), (by decide)⟩, ⟨#[.int .i64 0, .int .i64 0, .bool false, .int .u8 0], (by kernel_rfl), (by kernel_rfl), rfl⟩, (fun h => by cases h)⟩
theorem ty13 : (.struct [(0, 1), (1, 1)] 2 [.d (.str []), .d (.int .u64 0)] false : TI).ok Tryz.prog 13 := ⟨jzn Tryz.prog 13, (by kernel_rfl), ⟨(by kernel_rfl), (by decide)⟩, ⟨#[.string ⟨#[]⟩, .int .u64 0], (by kernel_rfl), (by kernel_rfl), rfl⟩, (fun h => by cases h)⟩
theorem ty14 : (.struct [(0, 1), (1, 1)] 2 [.d (.str []), .d (.int .u64 0)] false : TI).ok Tryz.prog 14 := ⟨jzn Tryz.prog 14, (by kernel_rfl), ⟨(by kernel_rfl), (by decide)⟩, ⟨#[.string ⟨#[]⟩, .int .u64 0], (by kernel_rfl), (by kernel_rfl), rfl⟩, (fun h => by cases h)⟩
theorem ty18 : (.struct [(0, 1)] 1 [.cst (.pointer none)] false : TI).ok Tryz.prog 18 := ⟨jzn Tryz.prog 18, (by kernel_rfl), ⟨(by kernel_rfl), (by decide)⟩, ⟨#[.pointer none], (by kernel_rfl), (by kernel_rfl), rfl⟩, (fun h => by cases h)⟩
theorem ty19 : (.struct [(0, 1)] 1 [.cst (.pointer none)] false : TI).ok Tryz.prog 19 := ⟨jzn Tryz.prog 19, (by kernel_rfl), ⟨(by kernel_rfl), (by decide)⟩, ⟨#[.pointer none], (by kernel_rfl), (by kernel_rfl), rfl⟩, (fun h => by cases h)⟩
theorem ty24 : (.struct [(0, 1)] 1 [.nil .pack] false : TI).ok Tryz.prog 24 := ⟨jzn Tryz.prog 24, (by kernel_rfl), ⟨(by kernel_rfl), (by decide)⟩, ⟨#[.slice none 0 0], (by kernel_rfl), (by kernel_rfl), rfl⟩, (fun h => by cases h)⟩
theorem ty25 : (.struct [(0, 1)] 1 [.nil .pack] false : TI).ok Tryz.prog 25 := ⟨jzn Tryz.prog 25, (by kernel_rfl), ⟨(by kernel_rfl), (by decide)⟩, ⟨#[.slice none 0 0], (by kernel_rfl), (by kernel_rfl), rfl⟩, (fun h => by cases h)⟩
theorem ty31 : (.struct [(0, 1), (1, 1), (2, 1), (3, 1)] 4 [.d (.str []), .d (.int .i64 0), .d (.int .i64 0), .d (.str [])] false : TI).ok Tryz.prog 31 := ⟨jzn Tryz.prog 31, (by kernel_rfl), ⟨(by kernel_rfl), (by decide)⟩, ⟨#[.string ⟨#[]⟩, .int .i64 0, .int .i64 0, .string ⟨#[]⟩], (by kernel_rfl), (by kernel_rfl), rfl⟩, (fun h => by cases h)⟩
theorem ty32 : (.struct [(0, 1), (1, 1), (2, 1), (3, 1)] 4 [.d (.str []), .d (.int .i64 0), .d (.int .i64 0), .d (.str [])] true : TI).ok Tryz.prog 32 := ⟨jzn Tryz.prog 32, (by kernel_rfl), ⟨(by kernel_rfl), (by decide)⟩, ⟨#[.string ⟨#[]⟩, .int .i64 0, .int .i64 0, .string ⟨#[]⟩], (by kernel_rfl), (by kernel_rfl), rfl⟩, (fun _ => eq_struct (l := [(9, 0, false), (3, 1, false), (3, 2, false), (9, 3, false)]) (fields := jzn Tryz.prog 32) (by kernel_rfl) (by kernel_rfl) (by kernel_rfl) (by kernel_rfl) (by intro h; have h2 : (jzn Tryz.prog 32).toList.length = 0 := (by rw [h]; rfl); have h3 : (jzn Tryz.prog 32).toList.length = 4 := (by kernel_rfl); rw [h3] at h2; cases h2) ⟨rfl, rfl, ty9, rfl, rfl, ty3, rfl, rfl, ty3, rfl, rfl, ty9, trivial⟩)⟩
theorem ty36 : (.struct [(0, 1), (1, 1), (2, 1), (3, 1)] 4 [.d (.str []), .d (.str []), .nil .need, .nil .entry] false : TI).ok Tryz.prog 36 := ⟨jzn Tryz.prog 36, (by kernel_rfl), ⟨(by kernel_rfl), (by decide)⟩, ⟨#[.string ⟨#[]⟩, .string ⟨#[]⟩, .slice none 0 0, .slice none 0 0], (by kernel_rfl), (by kernel_rfl), rfl⟩, (fun h => by cases h)⟩
theorem ty37 : (.struct [(0, 1), (1, 1), (2, 1), (3, 1)] 4 [.d (.str []), .d (.str []), .nil .need, .nil .entry] false : TI).ok Tryz.prog 37 := ⟨jzn Tryz.prog 37, (by kernel_rfl), ⟨(by kernel_rfl), (by decide)⟩, ⟨#[.string ⟨#[]⟩, .string ⟨#[]⟩, .slice none 0 0, .slice none 0 0], (by kernel_rfl), (by kernel_rfl), rfl⟩, (fun h => by cases h)⟩
theorem ty49 : (.struct [(0, 1), (1, 1), (2, 1)] 3 [.d (.str []), .d (.int .i64 0), .d (.str [])] false : TI).ok Tryz.prog 49 := ⟨jzn Tryz.prog 49, (by kernel_rfl), ⟨(by kernel_rfl), (by decide)⟩, ⟨#[.string ⟨#[]⟩, .int .i64 0, .string ⟨#[]⟩], (by kernel_rfl), (by kernel_rfl), rfl⟩, (fun h => by cases h)⟩
theorem ty50 : (.struct [(0, 1), (1, 1), (2, 1)] 3 [.d (.str []), .d (.int .i64 0), .d (.str [])] true : TI).ok Tryz.prog 50 := ⟨jzn Tryz.prog 50, (by kernel_rfl), ⟨(by kernel_rfl), (by decide)⟩, ⟨#[.string ⟨#[]⟩, .int .i64 0, .string ⟨#[]⟩], (by kernel_rfl), (by kernel_rfl), rfl⟩, (fun _ => eq_struct (l := [(9, 0, false), (3, 1, false), (9, 2, false)]) (fields := jzn Tryz.prog 50) (by kernel_rfl) (by kernel_rfl) (by kernel_rfl) (by kernel_rfl) (by intro h; have h2 : (jzn Tryz.prog 50).toList.length = 0 := (by rw [h]; rfl); have h3 : (jzn Tryz.prog 50).toList.length = 3 := (by kernel_rfl); rw [h3] at h2; cases h2) ⟨rfl, rfl, ty9, rfl, rfl, ty3, rfl, rfl, ty9, trivial⟩)⟩
theorem ty53 : (.struct [(0, 1)] 1 [.nil .pack] false : TI).ok Tryz.prog 53 := ⟨jzn Tryz.prog 53, (by kernel_rfl), ⟨(by kernel_rfl), (by decide)⟩, ⟨#[.slice none 0 0], (by kernel_rfl), (by kernel_rfl), rfl⟩, (fun h => by cases h)⟩
theorem ty54 : (.struct [(0, 1)] 1 [.nil .pack] false : TI).ok Tryz.prog 54 := ⟨jzn Tryz.prog 54, (by kernel_rfl), ⟨(by kernel_rfl), (by decide)⟩, ⟨#[.slice none 0 0], (by kernel_rfl), (by kernel_rfl), rfl⟩, (fun h => by cases h)⟩
theorem ty61 : (.struct [(0, 1), (1, 1), (2, 1), (3, 1)] 4 [.d (.str []), .d (.str []), .nil .need, .nil .entry] false : TI).ok Tryz.prog 61 := ⟨jzn Tryz.prog 61, (by kernel_rfl), ⟨(by kernel_rfl), (by decide)⟩, ⟨#[.string ⟨#[]⟩, .string ⟨#[]⟩, .slice none 0 0, .slice none 0 0], (by kernel_rfl), (by kernel_rfl), rfl⟩, (fun h => by cases h)⟩
theorem ty62 : (.struct [(0, 1), (1, 1), (2, 1), (3, 1)] 4 [.d (.str []), .d (.str []), .nil .need, .nil .entry] false : TI).ok Tryz.prog 62 := ⟨jzn Tryz.prog 62, (by kernel_rfl), ⟨(by kernel_rfl), (by decide)⟩, ⟨#[.string ⟨#[]⟩, .string ⟨#[]⟩, .slice none 0 0, .slice none 0 0], (by kernel_rfl), (by kernel_rfl), rfl⟩, (fun h => by cases h)⟩
theorem ty114 : (.struct [(0, 1), (1, 1)] 2 [.nil .u8, .d (.int .i64 0)] false : TI).ok Tryz.prog 114 := ⟨jzn Tryz.prog 114, (by kernel_rfl), ⟨(by kernel_rfl), (by decide)⟩, ⟨#[.slice none 0 0, .int .i64 0], (by kernel_rfl), (by kernel_rfl), rfl⟩, (fun h => by cases h)⟩
theorem ty115 : (.struct [(0, 1), (1, 1)] 2 [.nil .u8, .d (.int .i64 0)] false : TI).ok Tryz.prog 115 := ⟨jzn Tryz.prog 115, (by kernel_rfl), ⟨(by kernel_rfl), (by decide)⟩, ⟨#[.slice none 0 0, .int .i64 0], (by kernel_rfl), (by kernel_rfl), rfl⟩, (fun h => by cases h)⟩
theorem ty146 : (.struct [(0, 1), (1, 1), (2, 1)] 3 [.d (.str []), .d (.int .i64 0), .d (.str [])] true : TI).ok Tryz.prog 146 := ⟨jzn Tryz.prog 146, (by kernel_rfl), ⟨(by kernel_rfl), (by decide)⟩, ⟨#[.string ⟨#[]⟩, .int .i64 0, .string ⟨#[]⟩], (by kernel_rfl), (by kernel_rfl), rfl⟩, (fun _ => eq_struct (l := [(9, 0, false), (3, 1, false), (9, 2, false)]) (fields := jzn Tryz.prog 146) (by kernel_rfl) (by kernel_rfl) (by kernel_rfl) (by kernel_rfl) (by intro h; have h2 : (jzn Tryz.prog 146).toList.length = 0 := (by rw [h]; rfl); have h3 : (jzn Tryz.prog 146).toList.length = 3 := (by kernel_rfl); rw [h3] at h2; cases h2) ⟨rfl, rfl, ty9, rfl, rfl, ty3, rfl, rfl, ty9, trivial⟩)⟩
theorem ty148 : (.struct [(0, 1), (1, 1), (2, 1), (3, 1)] 4 [.d (.str []), .d (.int .i64 0), .d (.int .i64 0), .d (.str [])] true : TI).ok Tryz.prog 148 := ⟨jzn Tryz.prog 148, (by kernel_rfl), ⟨(by kernel_rfl), (by decide)⟩, ⟨#[.string ⟨#[]⟩, .int .i64 0, .int .i64 0, .string ⟨#[]⟩], (by kernel_rfl), (by kernel_rfl), rfl⟩, (fun _ => eq_struct (l := [(9, 0, false), (3, 1, false), (3, 2, false), (9, 3, false)]) (fields := jzn Tryz.prog 148) (by kernel_rfl) (by kernel_rfl) (by kernel_rfl) (by kernel_rfl) (by intro h; have h2 : (jzn Tryz.prog 148).toList.length = 0 := (by rw [h]; rfl); have h3 : (jzn Tryz.prog 148).toList.length = 4 := (by kernel_rfl); rw [h3] at h2; cases h2) ⟨rfl, rfl, ty9, rfl, rfl, ty3, rfl, rfl, ty3, rfl, rfl, ty9, trivial⟩)⟩
theorem ty218 : (.struct [(0, 1), (1, 1)] 2 [.d (.int .u8 0), .d (.int .u8 0)] false : TI).ok Tryz.prog 218 := ⟨jzn Tryz.prog 218, (by kernel_rfl), ⟨(by kernel_rfl), (by decide)⟩, ⟨#[.int .u8 0, .int .u8 0], (by kernel_rfl), (by kernel_rfl), rfl⟩, (fun h => by cases h)⟩
theorem ty219 : (.struct [(0, 1), (1, 1)] 2 [.d (.int .u8 0), .d (.int .u8 0)] false : TI).ok Tryz.prog 219 := ⟨jzn Tryz.prog 219, (by kernel_rfl), ⟨(by kernel_rfl), (by decide)⟩, ⟨#[.int .u8 0, .int .u8 0], (by kernel_rfl), (by kernel_rfl), rfl⟩, (fun h => by cases h)⟩
theorem ty225 : (.struct [(0, 1), (1, 1), (2, 1), (3, 1)] 4 [.cst (.pointer none), .cst (.pointer none), .cst (.pointer none), .d (.str [])] false : TI).ok Tryz.prog 225 := ⟨jzn Tryz.prog 225, (by kernel_rfl), ⟨(by kernel_rfl), (by decide)⟩, ⟨#[.pointer none, .pointer none, .pointer none, .string ⟨#[]⟩], (by kernel_rfl), (by kernel_rfl), rfl⟩, (fun h => by cases h)⟩
theorem ty226 : (.struct [(0, 1), (1, 1), (2, 1), (3, 1)] 4 [.cst (.pointer none), .cst (.pointer none), .cst (.pointer none), .d (.str [])] false : TI).ok Tryz.prog 226 := ⟨jzn Tryz.prog 226, (by kernel_rfl), ⟨(by kernel_rfl), (by decide)⟩, ⟨#[.pointer none, .pointer none, .pointer none, .string ⟨#[]⟩], (by kernel_rfl), (by kernel_rfl), rfl⟩, (fun h => by cases h)⟩
theorem ty236 : (.struct [(0, 1), (1, 1), (2, 1), (3, 1), (4, 1), (5, 1), (6, 1), (7, 1), (8, 1), (9, 1), (10, 1)] 11 [.d (.int .u64 0), .d (.int .u64 0), .d (.int .u32 0), .d (.int .u8 0), .d (.int .u8 0), .d (.int .u8 0), .d (.int .u8 0), .cst .nilFunc, .cst (.pointer none), .d (.int .i32 0), .d (.int .i32 0)] false : TI).ok Tryz.prog 236 := ⟨jzn Tryz.prog 236, (by kernel_rfl), ⟨(by kernel_rfl), (by decide)⟩, ⟨#[.int .u64 0, .int .u64 0, .int .u32 0, .int .u8 0, .int .u8 0, .int .u8 0, .int .u8 0, .nilFunc, .pointer none, .int .i32 0, .int .i32 0], (by kernel_rfl), (by kernel_rfl), rfl⟩, (fun h => by cases h)⟩
theorem ty237 : (.struct [(0, 1), (1, 1), (2, 1), (3, 1), (4, 1), (5, 1), (6, 1), (7, 1), (8, 1), (9, 1), (10, 1)] 11 [.d (.int .u64 0), .d (.int .u64 0), .d (.int .u32 0), .d (.int .u8 0), .d (.int .u8 0), .d (.int .u8 0), .d (.int .u8 0), .cst .nilFunc, .cst (.pointer none), .d (.int .i32 0), .d (.int .i32 0)] false : TI).ok Tryz.prog 237 := ⟨jzn Tryz.prog 237, (by kernel_rfl), ⟨(by kernel_rfl), (by decide)⟩, ⟨#[.int .u64 0, .int .u64 0, .int .u32 0, .int .u8 0, .int .u8 0, .int .u8 0, .int .u8 0, .nilFunc, .pointer none, .int .i32 0, .int .i32 0], (by kernel_rfl), (by kernel_rfl), rfl⟩, (fun h => by cases h)⟩
theorem jjq : Tryz.prog.follows .mixedOrders = true := by kernel_rfl
theorem jjo : ∀ T, (tt T).ok Tryz.prog T := tyAt_ok (l := ttL) ⟨ty1, ty2, ty3, ty4, ty5, ty6, ty7, ty8, ty9, ty10, ty11, ty12, ty13, ty14, ty15, ty16, ty17, ty18, ty19, ty21, ty22, ty23, ty24, ty25, ty26, ty27, ty28, ty29, ty30, ty31, ty32, ty34, ty35, ty36, ty37, ty38, ty39, ty41, ty42, ty44, ty45, ty47, ty48, ty49, ty50, ty51, ty52, ty53, ty54, ty55, ty56, ty57, ty58, ty59, ty60, ty61, ty62, ty63, ty64, ty65, ty66, ty67, ty68, ty70, ty71, ty72, ty73, ty74, ty76, ty77, ty79, ty80, ty81, ty82, ty83, ty84, ty85, ty86, ty87, ty88, ty89, ty90, ty91, ty92, ty93, ty94, ty95, ty96, ty97, ty98, ty99, ty100, ty101, ty102, ty103, ty104, ty107, ty108, ty111, ty113, ty114, ty115, ty116, ty117, ty118, ty119, ty121, ty122, ty123, ty124, ty125, ty126, ty127, ty128, ty129, ty130, ty131, ty132, ty133, ty134, ty135, ty136, ty137, ty138, ty139, ty141, ty142, ty143, ty144, ty145, ty146, ty147, ty148, ty149, ty150, ty151, ty152, ty153, ty154, ty155, ty156, ty157, ty158, ty159, ty160, ty161, ty162, ty163, ty164, ty165, ty166, ty167, ty168, ty169, ty170, ty171, ty172, ty173, ty175, ty176, ty177, ty178, ty180, ty181, ty182, ty183, ty184, ty185, ty186, ty187, ty188, ty189, ty190, ty191, ty192, ty193, ty194, ty195, ty196, ty197, ty198, ty199, ty200, ty201, ty202, ty203, ty204, ty205, ty206, ty207, ty209, ty210, ty211, ty212, ty213, ty215, ty216, ty218, ty219, ty221, ty223, ty224, ty225, ty226, ty230, ty231, ty232, ty233, ty234, ty235, ty236, ty237, trivial⟩
noncomputable def c108 : Ctx := { tt := tt, fs := fun n => match n with | _ => none }
theorem k108 (h : ∀ T, (tt T).ok Tryz.prog T) : CtxGood Tryz.prog c108 := ⟨⟨h⟩, fun g S hg => (by cases hg), jjq, fun _ _ h => (by cases h), fun _ h => (by cases h)⟩
noncomputable def b108 : Code := jjh Tryz.f108
@[reducible] noncomputable def s108_12 : Shape := ⟨[(0, .lf (.d (.str)))], [], 49⟩
@[reducible] noncomputable def t108_12 : List OSh := [(.norm, ⟨[(0, .lf (.d (.str))), (20, .lf (.d (.bool)))], [], 49⟩)]
noncomputable def g108_12 (y : s108_12.Y) : Option (YS t108_12) :=
 bif (!(y.1.1 == ([] : Str))) then
 bif (!(decide ((y.1.1.length : Int) > (10 : Int)))) then
(ix y.1.1 (0 : Int)).bind fun x1358 =>
 bif (!(decide ((x1358.toNat : Int) < (97 : Int)))) then
(ix y.1.1 (0 : Int)).bind fun x1359 =>
 some (((y.1.1, ((decide ((x1359.toNat : Int) > (122 : Int))), ())), ()))
else
 some (((y.1.1, (true, ())), ()))
else
 some (((y.1.1, (true, ())), ()))
else
 some (((y.1.1, (true, ())), ()))
theorem r108_12 : ∀ y, g108_12 y = jjM (jjd c108 []) (jjc b108 1 12) 12 s108_12 t108_12 y := fun y => by kernel_rfl
theorem q108_12 (H : CtxGood Tryz.prog c108) : jjn Tryz.prog (jjc b108 1 12) (jjb s108_12 t108_12 g108_12) :=
 jjv (fr := []) H (by kernel_rfl) jje r108_12
@[reducible] noncomputable def s108_7474 : Shape := ⟨[(0, .lf (.d (.str))), (3, .lf (.d (.int .i64))), (22, .lf (.d (.int .i64))), (23, .lf (.d (.int .i64)))], [], 49⟩
@[reducible] noncomputable def jJb : List OSh := [(.norm, ⟨[(0, .lf (.d (.str))), (22, .lf (.d (.int .i64))), (23, .lf (.d (.int .i64))), (47, .lf (.d (.bool)))], [], 49⟩)]
noncomputable def jzg (y : s108_7474.Y) : Option (YS jJb) :=
(ix y.1.1 y.1.2.1).bind fun x1376 =>
 bif (!(decide ((x1376.toNat : Int) < (97 : Int)))) then
(ix y.1.1 y.1.2.1).bind fun x1377 =>
 bif (decide ((x1377.toNat : Int) > (122 : Int))) then
(ix y.1.1 y.1.2.1).bind fun x1378 =>
 bif (!(decide ((x1378.toNat : Int) < (48 : Int)))) then
(ix y.1.1 y.1.2.1).bind fun x1379 =>
 some (((y.1.1, (y.1.2.2.1, (y.1.2.2.2.1, ((decide ((x1379.toNat : Int) > (57 : Int))), ())))), ()))
else
 some (((y.1.1, (y.1.2.2.1, (y.1.2.2.2.1, (true, ())))), ()))
else
 some (((y.1.1, (y.1.2.2.1, (y.1.2.2.2.1, (false, ())))), ()))
else
(ix y.1.1 y.1.2.1).bind fun x1380 =>
 bif (!(decide ((x1380.toNat : Int) < (48 : Int)))) then
(ix y.1.1 y.1.2.1).bind fun x1381 =>
 some (((y.1.1, (y.1.2.2.1, (y.1.2.2.2.1, ((decide ((x1381.toNat : Int) > (57 : Int))), ())))), ()))
else
 some (((y.1.1, (y.1.2.2.1, (y.1.2.2.2.1, (true, ())))), ()))
theorem r108_7474 : ∀ y, jzg y = jjM (jjd c108 []) (jjc (jjl (jjc b108 1 58)) 116 7474) 7474 s108_7474 jJb y := fun y => by kernel_rfl
theorem q108_7474 (H : CtxGood Tryz.prog c108) : jjn Tryz.prog (jjc (jjl (jjc b108 1 58)) 116 7474) (jjb s108_7474 jJb jzg) :=
 jjv (fr := []) H (by kernel_rfl) jje r108_7474
@[reducible] noncomputable def s108_58 : Shape := ⟨[(0, .lf (.d (.str))), (22, .lf (.d (.int .i64))), (23, .lf (.d (.int .i64)))], [], 49⟩
@[reducible] noncomputable def t108_58 : List OSh := [(.ret, ⟨[(2, .lf (.d (.bool)))], [], 49⟩), (.exit 0, ⟨[], [], 49⟩)]
noncomputable def g108_58 (y : s108_58.Y) : Option (Sum s108_58.Y (YS t108_58)) :=
 bif (decide (y.1.2.2.1 < y.1.2.1)) then
(jzg ((y.1.1, (y.1.2.2.1, (y.1.2.1, (y.1.2.2.1, ())))), ())).bind fun r1383 =>
 bif r1383.1.2.2.2.1 then
 some (.inr (.inl ((false, ()), ())))
else
 some (.inl ((r1383.1.1, (r1383.1.2.1, ((IntKind.i64.wrap (r1383.1.2.2.1 + (1 : Int))), ()))), ()))
else
 some (.inr (.inr ((), ())))
theorem r108_58 : ∀ y, g108_58 y = jjz (jjd c108 [(7474, jjb s108_7474 jJb jzg)]) (jjl (jjc b108 1 58)) 58 s108_58 t108_58 y := fun y => by kernel_rfl
noncomputable def l108_58 : s108_58.Y → Option (YS t108_58) := jjD g108_58
theorem q108_58 (H : CtxGood Tryz.prog c108) : jjn Tryz.prog (jjc b108 1 58) (jjb s108_58 t108_58 l108_58) :=
 jjt (fr := [(7474, jjb s108_7474 jJb jzg)]) H (by kernel_rfl) (by kernel_rfl) ⟨q108_7474 H, trivial⟩ (fun y => jji r108_58 y)
@[reducible] noncomputable def i108 : Shape := ⟨[(0, .lf (.d (.str)))], [], 49⟩
@[reducible] noncomputable def o108 : Shape := ⟨[(2, .lf (.d (.bool)))], [], 49⟩
noncomputable def f108 (a : i108.Y) : Option o108.Y :=
(g108_12 ((a.1.1, ()), ())).bind fun r1363 =>
 bif r1363.1.2.1 then
 some ((false, ()), ())
else
(l108_58 ((r1363.1.1, ((r1363.1.1.length : Int), ((0 : Int), ()))), ())).bind fun r1384 =>
(match r1384 with
| .inl r1385 =>
 some ((r1385.1.1, ()), ())
| .inr r1386 =>
 some ((true, ()), ()))
theorem e108 : ∀ a, f108 a = jjp (jjd c108 [(12, jjb s108_12 t108_12 g108_12), (58, jjb s108_58 t108_58 l108_58)]) b108 i108 o108 a := fun a => by kernel_rfl
noncomputable def S108 : jjG := jjf tt 49 i108 o108 [.tmp 2] [] f108
theorem z108 (h : ∀ T, (tt T).ok Tryz.prog T) : jja Tryz.prog 108 S108 :=
 have H := k108 h
 jjj (fn := Tryz.f108) (fr := [(12, jjb s108_12 t108_12 g108_12), (58, jjb s108_58 t108_58 l108_58)]) H (by kernel_rfl) (by kernel_rfl) (by kernel_rfl) (by kernel_rfl) (by kernel_rfl) ⟨q108_12 H, q108_58 H, trivial⟩ (by kernel_rfl) (fun y => ⟨_, _, rfl, rfl, rfl⟩) e108
noncomputable def c192 : Ctx := { tt := tt, fs := fun n => match n with | _ => none }
theorem k192 (h : ∀ T, (tt T).ok Tryz.prog T) : CtxGood Tryz.prog c192 := ⟨⟨h⟩, fun g S hg => (by cases hg), jjq, fun _ _ h => (by cases h), fun _ h => (by cases h)⟩
noncomputable def b192 : Code := jjh Tryz.f192
@[reducible] noncomputable def i192 : Shape := ⟨[(0, .lf (.d (.int .i64))), (1, .lf (.d (.int .i64))), (2, .lf (.d (.int .i64)))], [], 15⟩
@[reducible] noncomputable def o192 : Shape := ⟨[(6, .lf (.d (.bool)))], [], 15⟩
noncomputable def f192 (a : i192.Y) : Option o192.Y :=
 bif (decide (a.1.1 ≥ a.1.2.1)) then
 some (((decide (a.1.1 ≤ a.1.2.2.1)), ()), ())
else
 some ((false, ()), ())
theorem e192 : ∀ a, f192 a = jjp (jjd c192 []) b192 i192 o192 a := fun a => by kernel_rfl
noncomputable def S192 : jjG := jjf tt 15 i192 o192 [.tmp 6] [] f192
theorem z192 (h : ∀ T, (tt T).ok Tryz.prog T) : jja Tryz.prog 192 S192 :=
 have H := k192 h
 jjj (fn := Tryz.f192) (fr := []) H (by kernel_rfl) (by kernel_rfl) (by kernel_rfl) (by kernel_rfl) (by kernel_rfl) jje (by kernel_rfl) (fun y => ⟨_, _, rfl, rfl, rfl⟩) e192
noncomputable def c151 : Ctx := { tt := tt, fs := fun n => match n with | 192 => some S192 | _ => none }
theorem k151 (h : ∀ T, (tt T).ok Tryz.prog T) (h192 : jja Tryz.prog 192 S192) : CtxGood Tryz.prog c151 := ⟨⟨h⟩, fun g S hg => (by
 simp only [c151] at hg
 split at hg
 ·cases hg; exact h192
 ·cases hg), jjq, fun _ _ h => (by cases h), fun _ h => (by cases h)⟩
noncomputable def b151 : Code := jjh Tryz.f151
@[reducible] noncomputable def s151_840 : Shape := ⟨[(0, .lf (.d (.str))), (3, .lf (.d (.int .i64)))], [], 42⟩
@[reducible] noncomputable def t151_840 : List OSh := [(.norm, ⟨[(0, .lf (.d (.str))), (3, .lf (.d (.int .i64))), (4, .lf (.d (.bool)))], [], 42⟩)]
noncomputable def jJS (y : s151_840.Y) : Option (YS t151_840) :=
(ix y.1.1 y.1.2.1).bind fun x737 =>
 bif (decide ((x737.toNat : Int) ≥ (97 : Int))) then
(ix y.1.1 y.1.2.1).bind fun x738 =>
 some (((y.1.1, (y.1.2.1, ((decide ((x738.toNat : Int) ≤ (122 : Int))), ()))), ()))
else
 some (((y.1.1, (y.1.2.1, (false, ()))), ()))
theorem r151_840 : ∀ y, jJS y = jjM (jjd c151 []) (jjc (jjl (jjc b151 1 26)) 52 840) 840 s151_840 t151_840 y := fun y => by kernel_rfl
theorem q151_840 (H : CtxGood Tryz.prog c151) : jjn Tryz.prog (jjc (jjl (jjc b151 1 26)) 52 840) (jjb s151_840 t151_840 jJS) :=
 jjv (fr := []) H (by kernel_rfl) jje r151_840
@[reducible] noncomputable def s151_1682 : Shape := ⟨[(0, .lf (.d (.str))), (3, .lf (.d (.int .i64))), (4, .lf (.d (.bool)))], [], 42⟩
@[reducible] noncomputable def jz9 : List OSh := [(.norm, ⟨[(0, .lf (.d (.str))), (3, .lf (.d (.int .i64))), (38, .lf (.d (.bool)))], [], 42⟩)]
noncomputable def jze (y : s151_1682.Y) : Option (YS jz9) :=
 bif (!y.1.2.2.1) then
 bif (!(y.1.2.1 == (0 : Int))) then
(ix y.1.1 y.1.2.1).bind fun x745 =>
 bif (!(decide ((x745.toNat : Int) < (48 : Int)))) then
(ix y.1.1 y.1.2.1).bind fun x746 =>
 some (((y.1.1, (y.1.2.1, ((decide ((x746.toNat : Int) > (57 : Int))), ()))), ()))
else
 some (((y.1.1, (y.1.2.1, (true, ()))), ()))
else
 some (((y.1.1, (y.1.2.1, (true, ()))), ()))
else
 some (((y.1.1, (y.1.2.1, (false, ()))), ()))
theorem r151_1682 : ∀ y, jze y = jjM (jjd c151 []) (jjc (jjl (jjc b151 1 26)) 52 1682) 1682 s151_1682 jz9 y := fun y => by kernel_rfl
theorem q151_1682 (H : CtxGood Tryz.prog c151) : jjn Tryz.prog (jjc (jjl (jjc b151 1 26)) 52 1682) (jjb s151_1682 jz9 jze) :=
 jjv (fr := []) H (by kernel_rfl) jje r151_1682
@[reducible] noncomputable def s151_26 : Shape := ⟨[(0, .lf (.d (.str))), (3, .lf (.d (.int .i64)))], [], 42⟩
@[reducible] noncomputable def t151_26 : List OSh := [(.ret, ⟨[(2, .lf (.d (.bool)))], [], 42⟩), (.exit 0, ⟨[(0, .lf (.d (.str)))], [], 42⟩)]
noncomputable def g151_26 (y : s151_26.Y) : Option (Sum s151_26.Y (YS t151_26)) :=
 bif (decide (y.1.2.1 < (y.1.1.length : Int))) then
(jJS ((y.1.1, (y.1.2.1, ())), ())).bind fun r748 =>
(jze ((r748.1.1, (r748.1.2.1, (r748.1.2.2.1, ()))), ())).bind fun r749 =>
 bif r749.1.2.2.1 then
 some (.inr (.inl ((false, ()), ())))
else
 some (.inl ((r749.1.1, ((IntKind.i64.wrap (r749.1.2.1 + (1 : Int))), ())), ()))
else
 some (.inr (.inr ((y.1.1, ()), ())))
theorem r151_26 : ∀ y, g151_26 y = jjz (jjd c151 [(840, jjb s151_840 t151_840 jJS), (1682, jjb s151_1682 jz9 jze)]) (jjl (jjc b151 1 26)) 26 s151_26 t151_26 y := fun y => by kernel_rfl
noncomputable def l151_26 : s151_26.Y → Option (YS t151_26) := jjD g151_26
theorem q151_26 (H : CtxGood Tryz.prog c151) : jjn Tryz.prog (jjc b151 1 26) (jjb s151_26 t151_26 l151_26) :=
 jjt (fr := [(840, jjb s151_840 t151_840 jJS), (1682, jjb s151_1682 jz9 jze)]) H (by kernel_rfl) (by kernel_rfl) ⟨q151_840 H, q151_1682 H, trivial⟩ (fun y => jji r151_26 y)
@[reducible] noncomputable def i151 : Shape := ⟨[(0, .lf (.d (.str)))], [], 42⟩
@[reducible] noncomputable def o151 : Shape := ⟨[(2, .lf (.d (.bool)))], [], 42⟩
noncomputable def f151 (a : i151.Y) : Option o151.Y :=
(l151_26 ((a.1.1, ((0 : Int), ())), ())).bind fun r760 =>
(match r760 with
| .inl r761 =>
 some ((r761.1.1, ()), ())
| .inr r762 =>
(f192 (((r762.1.1.length : Int), ((1 : Int), ((10 : Int), ()))), ())).bind fun r763 =>
 some ((r763.1.1, ()), ()))
theorem e151 : ∀ a, f151 a = jjp (jjd c151 [(26, jjb s151_26 t151_26 l151_26)]) b151 i151 o151 a := fun a => by kernel_rfl
noncomputable def S151 : jjG := jjf tt 42 i151 o151 [.tmp 2] [] f151
theorem z151 (h : ∀ T, (tt T).ok Tryz.prog T) (h192 : jja Tryz.prog 192 S192) : jja Tryz.prog 151 S151 :=
 have H := k151 h h192
 jjj (fn := Tryz.f151) (fr := [(26, jjb s151_26 t151_26 l151_26)]) H (by kernel_rfl) (by kernel_rfl) (by kernel_rfl) (by kernel_rfl) (by kernel_rfl) ⟨q151_26 H, trivial⟩ (by kernel_rfl) (fun y => ⟨_, _, rfl, rfl, rfl⟩) e151
noncomputable def c171 : Ctx := { tt := tt, fs := fun n => match n with | _ => none }
theorem k171 (h : ∀ T, (tt T).ok Tryz.prog T) : CtxGood Tryz.prog c171 := ⟨⟨h⟩, fun g S hg => (by cases hg), jjq, fun _ _ h => (by cases h), fun _ h => (by cases h)⟩
noncomputable def b171 : Code := jjh Tryz.f171
@[reducible] noncomputable def s171_12 : Shape := ⟨[(0, .lf (.d (.str))), (1, .lf (.d (.int .i64)))], [], 53⟩
@[reducible] noncomputable def t171_12 : List OSh := [(.norm, ⟨[(0, .lf (.d (.str))), (1, .lf (.d (.int .i64))), (24, .lf (.d (.bool)))], [], 53⟩)]
noncomputable def g171_12 (y : s171_12.Y) : Option (YS t171_12) :=
 bif (!(y.1.1 == ([] : Str))) then
 bif (!(decide ((y.1.1.length : Int) > (9 : Int)))) then
 bif (decide ((y.1.1.length : Int) > (1 : Int))) then
(ix y.1.1 (0 : Int)).bind fun x1390 =>
 some (((y.1.1, (y.1.2.1, (((x1390.toNat : Int) == (48 : Int)), ()))), ()))
else
 some (((y.1.1, (y.1.2.1, (false, ()))), ()))
else
 some (((y.1.1, (y.1.2.1, (true, ()))), ()))
else
 some (((y.1.1, (y.1.2.1, (true, ()))), ()))
theorem r171_12 : ∀ y, g171_12 y = jjM (jjd c171 []) (jjc b171 1 12) 12 s171_12 t171_12 y := fun y => by kernel_rfl
theorem q171_12 (H : CtxGood Tryz.prog c171) : jjn Tryz.prog (jjc b171 1 12) (jjb s171_12 t171_12 g171_12) :=
 jjv (fr := []) H (by kernel_rfl) jje r171_12
@[reducible] noncomputable def s171_31332 : Shape := ⟨[(0, .lf (.d (.str))), (1, .lf (.d (.int .i64))), (6, .lf (.d (.int .i64))), (7, .lf (.d (.int .i64))), (26, .lf (.d (.int .i64))), (27, .lf (.d (.int .i64)))], [], 53⟩
@[reducible] noncomputable def jx2 : List OSh := [(.norm, ⟨[(0, .lf (.d (.str))), (1, .lf (.d (.int .i64))), (6, .lf (.d (.int .i64))), (7, .lf (.d (.int .i64))), (26, .lf (.d (.int .i64))), (27, .lf (.d (.int .i64))), (39, .lf (.d (.bool)))], [], 53⟩)]
noncomputable def jxw (y : s171_31332.Y) : Option (YS jx2) :=
(ix y.1.1 y.1.2.2.2.1).bind fun x1399 =>
 bif (!(decide ((x1399.toNat : Int) < (48 : Int)))) then
(ix y.1.1 y.1.2.2.2.1).bind fun x1400 =>
 some (((y.1.1, (y.1.2.1, (y.1.2.2.1, (y.1.2.2.2.1, (y.1.2.2.2.2.1, (y.1.2.2.2.2.2.1, ((decide ((x1400.toNat : Int) > (57 : Int))), ()))))))), ()))
else
 some (((y.1.1, (y.1.2.1, (y.1.2.2.1, (y.1.2.2.2.1, (y.1.2.2.2.2.1, (y.1.2.2.2.2.2.1, (true, ()))))))), ()))
theorem r171_31332 : ∀ y, jxw y = jjM (jjd c171 []) (jjc (jjl (jjc b171 1 122)) 244 31332) 31332 s171_31332 jx2 y := fun y => by kernel_rfl
theorem q171_31332 (H : CtxGood Tryz.prog c171) : jjn Tryz.prog (jjc (jjl (jjc b171 1 122)) 244 31332) (jjb s171_31332 jx2 jxw) :=
 jjv (fr := []) H (by kernel_rfl) jje r171_31332
@[reducible] noncomputable def s171_122 : Shape := ⟨[(0, .lf (.d (.str))), (1, .lf (.d (.int .i64))), (6, .lf (.d (.int .i64))), (26, .lf (.d (.int .i64))), (27, .lf (.d (.int .i64)))], [], 53⟩
@[reducible] noncomputable def jJH : List OSh := [(.ret, ⟨[(4, .lf (.d (.int .i64))), (5, .lf (.d (.bool)))], [], 53⟩), (.exit 0, ⟨[(1, .lf (.d (.int .i64))), (6, .lf (.d (.int .i64)))], [], 53⟩)]
noncomputable def g171_122 (y : s171_122.Y) : Option (Sum s171_122.Y (YS jJH)) :=
 bif (decide (y.1.2.2.2.2.1 < y.1.2.2.2.1)) then
(jxw ((y.1.1, (y.1.2.1, (y.1.2.2.1, (y.1.2.2.2.2.1, (y.1.2.2.2.1, (y.1.2.2.2.2.1, ())))))), ())).bind fun r1405 =>
 bif r1405.1.2.2.2.2.2.2.1 then
 some (.inr (.inl (((0 : Int), (false, ())), ())))
else
(ix r1405.1.1 r1405.1.2.2.2.1).bind fun x1406 =>
 some (.inl ((r1405.1.1, (r1405.1.2.1, ((IntKind.i64.wrap ((IntKind.i64.wrap (r1405.1.2.2.1 * (10 : Int))) + (IntKind.i64.wrap (IntKind.u8.wrap ((x1406.toNat : Int) - (48 : Int)))))), (r1405.1.2.2.2.2.1, ((IntKind.i64.wrap (r1405.1.2.2.2.2.2.1 + (1 : Int))), ()))))), ()))
else
 some (.inr (.inr ((y.1.2.1, (y.1.2.2.1, ())), ())))
theorem r171_122 : ∀ y, g171_122 y = jjz (jjd c171 [(31332, jjb s171_31332 jx2 jxw)]) (jjl (jjc b171 1 122)) 122 s171_122 jJH y := fun y => by kernel_rfl
noncomputable def jJK : s171_122.Y → Option (YS jJH) := jjD g171_122
theorem q171_122 (H : CtxGood Tryz.prog c171) : jjn Tryz.prog (jjc b171 1 122) (jjb s171_122 jJH jJK) :=
 jjt (fr := [(31332, jjb s171_31332 jx2 jxw)]) H (by kernel_rfl) (by kernel_rfl) ⟨q171_31332 H, trivial⟩ (fun y => jji r171_122 y)
@[reducible] noncomputable def i171 : Shape := ⟨[(0, .lf (.d (.str))), (1, .lf (.d (.int .i64)))], [], 53⟩
@[reducible] noncomputable def o171 : Shape := ⟨[(4, .lf (.d (.int .i64))), (5, .lf (.d (.bool)))], [], 53⟩
noncomputable def f171 (a : i171.Y) : Option o171.Y :=
(g171_12 ((a.1.1, (a.1.2.1, ())), ())).bind fun r1394 =>
 bif r1394.1.2.2.1 then
 some (((0 : Int), (false, ())), ())
else
(jJK ((r1394.1.1, (r1394.1.2.1, ((0 : Int), ((r1394.1.1.length : Int), ((0 : Int), ()))))), ())).bind fun r1410 =>
(match r1410 with
| .inl r1411 =>
 some ((r1411.1.1, (r1411.1.2.1, ())), ())
| .inr r1412 =>
 bif (decide (r1412.1.2.1 > r1412.1.1)) then
 some (((0 : Int), (false, ())), ())
else
 some ((r1412.1.2.1, (true, ())), ()))
theorem e171 : ∀ a, f171 a = jjp (jjd c171 [(12, jjb s171_12 t171_12 g171_12), (122, jjb s171_122 jJH jJK)]) b171 i171 o171 a := fun a => by kernel_rfl
noncomputable def S171 : jjG := jjf tt 53 i171 o171 [.tmp 4, .tmp 5] [] f171
theorem z171 (h : ∀ T, (tt T).ok Tryz.prog T) : jja Tryz.prog 171 S171 :=
 have H := k171 h
 jjj (fn := Tryz.f171) (fr := [(12, jjb s171_12 t171_12 g171_12), (122, jjb s171_122 jJH jJK)]) H (by kernel_rfl) (by kernel_rfl) (by kernel_rfl) (by kernel_rfl) (by kernel_rfl) ⟨q171_12 H, q171_122 H, trivial⟩ (by kernel_rfl) (fun y => ⟨_, _, rfl, rfl, rfl⟩) e171
noncomputable def c209 : Ctx := { tt := tt, fs := fun n => match n with | _ => none }
theorem k209 (h : ∀ T, (tt T).ok Tryz.prog T) : CtxGood Tryz.prog c209 := ⟨⟨h⟩, fun g S hg => (by cases hg), jjq, fun _ _ h => (by cases h), fun _ h => (by cases h)⟩
noncomputable def b209 : Code := jjh Tryz.f209
@[reducible] noncomputable def s209_3728 : Shape := ⟨[(0, .lf (.d (.str))), (3, .lf (.d (.int .i64))), (4, .lf (.d (.int .i64)))], [], 47⟩
@[reducible] noncomputable def jz5 : List OSh := [(.norm, ⟨[(0, .lf (.d (.str))), (3, .lf (.d (.int .i64))), (4, .lf (.d (.int .i64))), (24, .lf (.d (.bool)))], [], 47⟩)]
noncomputable def jzd (y : s209_3728.Y) : Option (YS jz5) :=
(ix y.1.1 y.1.2.2.1).bind fun x775 =>
 bif (!(decide ((x775.toNat : Int) < (48 : Int)))) then
(ix y.1.1 y.1.2.2.1).bind fun x776 =>
 bif (!(decide ((x776.toNat : Int) > (57 : Int)))) then
 some (((y.1.1, (y.1.2.1, (y.1.2.2.1, ((decide (y.1.2.2.1 ≥ (6 : Int))), ())))), ()))
else
 some (((y.1.1, (y.1.2.1, (y.1.2.2.1, (true, ())))), ()))
else
 some (((y.1.1, (y.1.2.1, (y.1.2.2.1, (true, ())))), ()))
theorem r209_3728 : ∀ y, jzd y = jjM (jjd c209 []) (jjc (jjl (jjc b209 1 58)) 116 3728) 3728 s209_3728 jz5 y := fun y => by kernel_rfl
theorem q209_3728 (H : CtxGood Tryz.prog c209) : jjn Tryz.prog (jjc (jjl (jjc b209 1 58)) 116 3728) (jjb s209_3728 jz5 jzd) :=
 jjv (fr := []) H (by kernel_rfl) jje r209_3728
@[reducible] noncomputable def s209_58 : Shape := ⟨[(0, .lf (.d (.str))), (3, .lf (.d (.int .i64))), (4, .lf (.d (.int .i64)))], [], 47⟩
@[reducible] noncomputable def t209_58 : List OSh := [(.ret, ⟨[(2, .lf (.d (.int .i64)))], [], 47⟩), (.exit 0, ⟨[(0, .lf (.d (.str))), (3, .lf (.d (.int .i64)))], [], 47⟩)]
noncomputable def g209_58 (y : s209_58.Y) : Option (Sum s209_58.Y (YS t209_58)) :=
 bif (decide (y.1.2.2.1 < (y.1.1.length : Int))) then
(jzd ((y.1.1, (y.1.2.1, (y.1.2.2.1, ()))), ())).bind fun r781 =>
 bif r781.1.2.2.2.1 then
 some (.inr (.inl ((((-1) : Int), ()), ())))
else
(ix r781.1.1 r781.1.2.2.1).bind fun x782 =>
 some (.inl ((r781.1.1, ((IntKind.i64.wrap ((IntKind.i64.wrap (r781.1.2.1 * (10 : Int))) + (IntKind.i64.wrap (IntKind.u8.wrap ((x782.toNat : Int) - (48 : Int)))))), ((IntKind.i64.wrap (r781.1.2.2.1 + (1 : Int))), ()))), ()))
else
 some (.inr (.inr ((y.1.1, (y.1.2.1, ())), ())))
theorem r209_58 : ∀ y, g209_58 y = jjz (jjd c209 [(3728, jjb s209_3728 jz5 jzd)]) (jjl (jjc b209 1 58)) 58 s209_58 t209_58 y := fun y => by kernel_rfl
noncomputable def l209_58 : s209_58.Y → Option (YS t209_58) := jjD g209_58
theorem q209_58 (H : CtxGood Tryz.prog c209) : jjn Tryz.prog (jjc b209 1 58) (jjb s209_58 t209_58 l209_58) :=
 jjt (fr := [(3728, jjb s209_3728 jz5 jzd)]) H (by kernel_rfl) (by kernel_rfl) ⟨q209_3728 H, trivial⟩ (fun y => jji r209_58 y)
@[reducible] noncomputable def s209_60 : Shape := ⟨[(0, .lf (.d (.str))), (3, .lf (.d (.int .i64)))], [], 47⟩
@[reducible] noncomputable def t209_60 : List OSh := [(.norm, ⟨[(3, .lf (.d (.int .i64))), (45, .lf (.d (.bool)))], [], 47⟩)]
noncomputable def g209_60 (y : s209_60.Y) : Option (YS t209_60) :=
 bif (!((y.1.1.length : Int) == (0 : Int))) then
 bif (decide ((y.1.1.length : Int) > (1 : Int))) then
(ix y.1.1 (0 : Int)).bind fun x797 =>
 some (((y.1.2.1, (((x797.toNat : Int) == (48 : Int)), ())), ()))
else
 some (((y.1.2.1, (false, ())), ()))
else
 some (((y.1.2.1, (true, ())), ()))
theorem r209_60 : ∀ y, g209_60 y = jjM (jjd c209 []) (jjc b209 1 60) 60 s209_60 t209_60 y := fun y => by kernel_rfl
theorem q209_60 (H : CtxGood Tryz.prog c209) : jjn Tryz.prog (jjc b209 1 60) (jjb s209_60 t209_60 g209_60) :=
 jjv (fr := []) H (by kernel_rfl) jje r209_60
@[reducible] noncomputable def i209 : Shape := ⟨[(0, .lf (.d (.str)))], [], 47⟩
@[reducible] noncomputable def o209 : Shape := ⟨[(2, .lf (.d (.int .i64)))], [], 47⟩
noncomputable def f209 (a : i209.Y) : Option o209.Y :=
(l209_58 ((a.1.1, ((0 : Int), ((0 : Int), ()))), ())).bind fun r793 =>
(match r793 with
| .inl r794 =>
 some ((r794.1.1, ()), ())
| .inr r795 =>
(g209_60 ((r795.1.1, (r795.1.2.1, ())), ())).bind fun r798 =>
 bif r798.1.2.1 then
 some ((((-1) : Int), ()), ())
else
 some ((r798.1.1, ()), ()))
theorem e209 : ∀ a, f209 a = jjp (jjd c209 [(58, jjb s209_58 t209_58 l209_58), (60, jjb s209_60 t209_60 g209_60)]) b209 i209 o209 a := fun a => by kernel_rfl
noncomputable def S209 : jjG := jjf tt 47 i209 o209 [.tmp 2] [] f209
theorem z209 (h : ∀ T, (tt T).ok Tryz.prog T) : jja Tryz.prog 209 S209 :=
 have H := k209 h
 jjj (fn := Tryz.f209) (fr := [(58, jjb s209_58 t209_58 l209_58), (60, jjb s209_60 t209_60 g209_60)]) H (by kernel_rfl) (by kernel_rfl) (by kernel_rfl) (by kernel_rfl) (by kernel_rfl) ⟨q209_58 H, q209_60 H, trivial⟩ (by kernel_rfl) (fun y => ⟨_, _, rfl, rfl, rfl⟩) e209
def lowB (b : UInt8) : Bool := decide ((97 : Int) ≤ (b.toNat : Int)) && decide ((b.toNat : Int) ≤ 122)
def jzQ (b : UInt8) : Bool := decide ((48 : Int) ≤ (b.toNat : Int)) && decide ((b.toNat : Int) ≤ 57)
def jj6 (n lo hi : Int) : Bool := decide (lo ≤ n) && decide (n ≤ hi)
theorem v_l1In (a) : f192 a = some ((jj6 a.1.1 a.1.2.1 a.1.2.2.1, ()), ()) := by
 simp only [f192, jj6, ge_iff_le]
 cases decide (a.1.2.1 ≤ a.1.1) <;> rfl
def jzO (s : Str) : Bool := jqu (fun i x => lowB x || (!(i == 0) && jzQ x)) 0 s && jj6 s.length 1 10
theorem v_l3Pack (a) (hs : Sm a.1.1.length) : f151 a = some ((jzO a.1.1, ()), ()) := by
 obtain ⟨⟨s, u⟩, u'⟩ := a
 have key : l151_26 ((s, ((0 : Int), ())), ()) = some (bif jqu (fun i x => lowB x || (!(i == 0) && jzQ x)) 0 s then .inr ((s, ()), ()) else .inl ((false, ()), ())) := by
  refine jjN g151_26 s (fun i => ((s, ((i : Int), ())), ())) _ _ _ (fun i x hx => ?_) ?_
  ·have hi := jjy hx
   have hw : Sm i := by unfold Sm at *; simp only at hs; omega
   simp only [g151_26, jjB hi, cond_true, jJS, jze, jju, hx, Option.bind_some, jjk hw, ge_iff_le, beq0]
   unfold lowB jzQ
   by_cases h1 : (97 : Int) ≤ (x.toNat : Int) <;> by_cases h2 : (x.toNat : Int) ≤ 122 <;> cases h3 : (i == 0) <;> by_cases h4 : (48 : Int) ≤ (x.toNat : Int) <;> by_cases h5 : (x.toNat : Int) ≤ 57 <;> simp [h1, h2, h3, h4, h5, jjk hw, jju, hx, beq0, dlt, dgt, -beq_iff_eq]
  ·simp only [g151_26, jjC, cond_false]
 simp only [f151, key, Option.bind_some]
 unfold jzO
 cases jqu (fun i x => lowB x || (!(i == 0) && jzQ x)) 0 s with
 | false => rfl
 | true => simp only [cond_true, v_l1In, Option.bind_some, Bool.true_and]
theorem pkName_cons (b : UInt8) (r : Str) : jzO (b :: r) = (lowB b && (b :: r).all (fun x => lowB x || jzQ x) && decide (((b :: r).length : Int) ≤ 10)) := by
 unfold jzO
 simp only [jqu, List.all_cons]
 have : jqu (fun i x => lowB x || (!(i == 0) && jzQ x)) (0 + 1) r = r.all (fun x => lowB x || jzQ x) := by
  have hz : ∀ (i : Nat) (x : UInt8), 1 ≤ i → x ∈ r → (lowB x || (!(i == 0) && jzQ x)) = (lowB x || jzQ x) := by
   intro i x hi _
   have : (i == 0) = false := by simp; omega
   rw [this]; simp
  rw [allI_congr (ok' := fun _ x => lowB x || jzQ x) r 1 hz, jjZ]
 rw [this]
 unfold jj6
 have : decide ((1 : Int) ≤ ((b :: r).length : Int)) = true := by simp only [List.length_cons, decide_eq_true_eq]; omega
 rw [this]
 cases lowB b <;> simp
theorem v_packNameOk (a) (hs : Sm a.1.1.length) : f108 a = some ((jzO a.1.1, ()), ()) := by
 obtain ⟨⟨s, u⟩, u'⟩ := a
 have key : l108_58 ((s, ((s.length : Int), ((0 : Int), ()))), ()) = some (bif jqu (fun _ x => lowB x || jzQ x) 0 s then .inr ((), ()) else .inl ((false, ()), ())) := by
  refine jjN g108_58 s (fun i => ((s, ((s.length : Int), ((i : Int), ()))), ())) _ _ _ (fun i x hx => ?_) ?_
  ·have hi := jjy hx
   have hw : Sm i := by unfold Sm at *; simp only at hs; omega
   simp only [g108_58, jjB hi, cond_true, jzg, jju, hx, Option.bind_some, jjk hw, dlt, dgt]
   unfold lowB jzQ
   by_cases h1 : (97 : Int) ≤ (x.toNat : Int) <;> by_cases h2 : (x.toNat : Int) ≤ 122 <;> by_cases h4 : (48 : Int) ≤ (x.toNat : Int) <;> by_cases h5 : (x.toNat : Int) ≤ 57 <;> simp [h1, h2, h4, h5, jjk hw, jju, hx, dlt, dgt]
  ·simp only [g108_58, jjC, cond_false]
 rw [jjZ] at key
 cases s with
 | nil => rfl
 | cons b r =>
  have hb : ix (b :: r) 0 = some b := rfl
  simp only [f108, g108_12, hb, Option.bind_some, dlt, dgt, pkName_cons]
  have he : ((b :: r) == ([] : Str)) = false := rfl
  have hl : lowB b = (decide ((97 : Int) ≤ (b.toNat : Int)) && decide ((b.toNat : Int) ≤ 122)) := rfl
  rw [he, hl]
  by_cases h1 : (97 : Int) ≤ (b.toNat : Int) <;> by_cases h2 : (b.toNat : Int) ≤ 122 <;> by_cases h3 : ((b :: r).length : Int) ≤ 10 <;>
   simp only [h1, h2, h3, decide_true, decide_false, Bool.not_true, Bool.not_false, cond_true, cond_false, Option.bind_some, Bool.true_and, Bool.and_true, Bool.false_and, Bool.and_false]
  rw [key]
  generalize List.all (b :: r) (fun x => lowB x || jzQ x) = q
  cases q <;> rfl
def jx7 (n : Int) (b : UInt8) : Int := n * 10 + ((b.toNat : Int) - 48)
def valN (s : Str) : Int := s.foldl jx7 0
def leadB : Str → Bool
 | b :: _ :: _ => (b.toNat : Int) == 48
 | _ => false
def numB (s : Str) : Bool := s.all jzQ && !(s == []) && !leadB s && decide (s.length ≤ 6) && decide (valN s ≤ 999)
theorem jql {b : UInt8} (h : jzQ b = true) : 48 ≤ (b.toNat : Int) ∧ (b.toNat : Int) ≤ 57 := by
 simpa [jzQ] using h
theorem wrapU8 {b : UInt8} (h : jzQ b = true) : IntKind.u8.wrap ((b.toNat : Int) - 48) = (b.toNat : Int) - 48 := by
 have := jql h
 rw [IntKind.wrap_u8]; omega
theorem step_bounds {n : Int} {b : UInt8} {i : Nat} (h : jzQ b = true) (h0 : 0 ≤ n) (h1 : n < 10 ^ i) : 0 ≤ jx7 n b ∧ jx7 n b < 10 ^ (i + 1) := by
 have := jql h
 unfold jx7
 rw [Int.pow_succ]
 omega
theorem pow_le9 {i : Nat} (h : i ≤ 9) : (10 : Int) ^ i ≤ 1000000000 := by
 have : i = 0 ∨ i = 1 ∨ i = 2 ∨ i = 3 ∨ i = 4 ∨ i = 5 ∨ i = 6 ∨ i = 7 ∨ i = 8 ∨ i = 9 := by omega
 rcases this with rfl | rfl | rfl | rfl | rfl | rfl | rfl | rfl | rfl | rfl <;> decide
theorem step_wrap {n : Int} {b : UInt8} {i : Nat} (h : jzQ b = true) (hi : i ≤ 8) (h0 : 0 ≤ n) (h1 : n < 10 ^ i) :
  IntKind.i64.wrap (IntKind.i64.wrap (n * 10) + IntKind.i64.wrap (IntKind.u8.wrap ((b.toNat : Int) - 48))) = jx7 n b := by
 have hd := jql h
 have hp := pow_le9 (show i ≤ 9 by omega)
 rw [wrapU8 h, jjH (n := n * 10) (by omega) (by omega), jjH (n := (b.toNat : Int) - 48) (by omega) (by omega), jjH (by omega) (by omega)]
 rfl
theorem v_l1Num (a) (hs : Sm a.1.1.length) : f209 a = some ((bif a.1.1.all jzQ && decide (a.1.1.length ≤ 6) && !(a.1.1 == []) && !leadB a.1.1 then valN a.1.1 else -1, ()), ()) := by
 obtain ⟨⟨s, u⟩, u'⟩ := a
 have key : l209_58 ((s, ((0 : Int), ((0 : Int), ()))), ()) = some (bif jqu (fun i x => jzQ x && decide (i < 6)) 0 s then .inr ((s, (valN s, ())), ()) else .inl ((((-1) : Int), ()), ())) := by
  have := jq3 g209_58 s (fun i n => ((s, (n, ((i : Int), ()))), ())) (fun i x n => some (bif jzQ x && decide (i < 6) then .inl (jx7 n x) else .inr (.inl ((((-1) : Int), ()), ())))) (fun n => .inr ((s, (n, ())), ()))
   (fun i n => 0 ≤ n ∧ n < 10 ^ i ∧ (i ≤ 6)) (0 : Int) ⟨by decide, by decide, by decide⟩ (fun i x n hx hI => ?_) (fun n _ => ?_)
  ·exact this.trans (by rw [jQl]; rfl)
  ·have hi := jjy hx
   have hw : Sm i := by unfold Sm at *; simp only at hs; omega
   obtain ⟨h0, h1, h6⟩ := hI
   refine ⟨?_, fun s' h' => ?_⟩
   ·simp only [g209_58, jjB hi, cond_true, jzd, jju, hx, Option.bind_some, jjk hw, dlt, dgt, dge]
    have hsix : decide ((6 : Int) ≤ (i : Int)) = !decide (i < 6) := by by_cases h : i < 6 <;> simp [h] <;> omega
    rw [hsix]
    cases hd : jzQ x with
    | false =>
     unfold jzQ at hd
     by_cases h4 : (48 : Int) ≤ (x.toNat : Int) <;> by_cases h5 : (x.toNat : Int) ≤ 57 <;> simp [h4, h5] at hd ⊢
    | true =>
     obtain ⟨h4, h5⟩ := jql hd
     cases hq : decide (i < 6) with
     | false => simp [h4, h5]
     | true =>
      have hq : i < 6 := by simpa using hq
      have := step_wrap (i := i) hd (by omega) h0 h1
      simp only [h4, h5, decide_true, Bool.not_true, Bool.not_false, cond_true, cond_false, Option.bind_some, jju, hx, this, jjk hw, Bool.and_true, Option.map_some]
   ·simp only [Option.some.injEq] at h'
    cases hq : (jzQ x && decide (i < 6)) with
    | false => rw [hq] at h'; cases h'
    | true =>
     rw [hq] at h'
     simp only [cond_true, Sum.inl.injEq] at h'
     simp only [Bool.and_eq_true, decide_eq_true_eq] at hq
     subst h'
     have := step_bounds hq.1 h0 h1
     exact ⟨this.1, this.2, by omega⟩
  ·simp only [g209_58, jjC, cond_false]
 rw [allI_and, jjZ, allI_lt] at key
 simp only [f209, key, Option.bind_some]
 cases s with
 | nil => rfl
 | cons b r =>
  have hb : ix (b :: r) 0 = some b := rfl
  have he : ((b :: r) == ([] : Str)) = false := rfl
  have hz : (((b :: r).length : Int) == 0) = false := by simp only [List.length_cons, beq_eq_false_iff_ne, ne_eq]; omega
  have hl : decide (((b :: r).length : Int) > 1) = !(r == []) := by cases r <;> simp; omega
  simp only [List.isEmpty_cons, Bool.false_or, Nat.zero_add, he, Bool.not_false, Bool.and_true]
  cases hq : (List.all (b :: r) jzQ && decide ((b :: r).length ≤ 6)) with
  | false => rfl
  | true =>
   simp only [cond_true, g209_60, hz, Bool.not_false, hl, hb, Option.bind_some, Bool.true_and]
   cases r with
   | nil => rfl
   | cons c r =>
    have : ((c :: r) == ([] : Str)) = false := rfl
    rw [this]
    simp only [Bool.not_false, cond_true, Option.bind_some, leadB]
    cases ((b.toNat : Int) == 48) <;> rfl
theorem val_lower : ∀ (r : Str) (n : Int) (k : Nat), r.all jzQ = true → 0 ≤ n → 10 ^ k ≤ n → 10 ^ (k + r.length) ≤ r.foldl jx7 n := by
 intro r
 induction r with
 | nil => intro n k _ _ h; exact h
 | cons b r ih =>
  intro n k hd h0 h
  simp only [List.all_cons, Bool.and_eq_true] at hd
  have hb := jql hd.1
  have hs : 10 ^ (k + 1) ≤ jx7 n b := by unfold jx7; rw [Int.pow_succ]; omega
  have := ih (jx7 n b) (k + 1) hd.2 (by unfold jx7; omega) hs
  simp only [List.length_cons, List.foldl_cons]
  rw [show k + (r.length + 1) = k + 1 + r.length by omega]
  exact this
theorem pow10_ge {n : Nat} (h : 6 ≤ n) : (1000000 : Int) ≤ 10 ^ n := by
 induction n with
 | zero => omega
 | succ n ih =>
  by_cases h6 : 6 ≤ n
  ·have := ih h6; rw [Int.pow_succ]; omega
  ·have : n = 5 := by omega
   subst this; decide
theorem val_big {s : Str} (hd : s.all jzQ = true) (hl : leadB s = false) (h7 : 7 ≤ s.length) : 999 < valN s := by
 match s, h7 with
 | b :: c :: r, h7 =>
  simp only [leadB, beq_eq_false_iff_ne, ne_eq] at hl
  simp only [List.all_cons, Bool.and_eq_true] at hd
  have hb := jql hd.1
  have hc := jql hd.2.1
  have hs : (10 : Int) ^ 0 ≤ jx7 0 b := by unfold jx7; simp; omega
  have := val_lower (c :: r) (jx7 0 b) 0 (by simp [hd.2.1, hd.2.2]) (by unfold jx7; omega) hs
  have h2 : (1000000 : Int) ≤ 10 ^ (0 + (c :: r).length) := pow10_ge (by simp only [List.length_cons] at h7 ⊢; omega)
  show 999 < List.foldl jx7 (jx7 0 b) (c :: r)
  omega
theorem v_number (a) (hs : Sm a.1.1.length) (h9 : a.1.2.1 = 999) : f171 a = some ((bif numB a.1.1 then valN a.1.1 else 0, (numB a.1.1, ())), ()) := by
 obtain ⟨⟨s, m, u⟩, u'⟩ := a
 obtain rfl : m = 999 := h9
 have key : s.length ≤ 9 → jJK ((s, ((999 : Int), ((0 : Int), ((s.length : Int), ((0 : Int), ()))))), ()) = some (bif jqu (fun i x => jzQ x) 0 s then .inr (((999 : Int), (valN s, ())), ()) else .inl (((0 : Int), (false, ())), ())) := by
  intro h9
  have := jq3 g171_122 s (fun i n => ((s, ((999 : Int), (n, ((s.length : Int), ((i : Int), ()))))), ())) (fun i x n => some (bif jzQ x then .inl (jx7 n x) else .inr (.inl (((0 : Int), (false, ())), ())))) (fun n => .inr (((999 : Int), (n, ())), ()))
   (fun i n => 0 ≤ n ∧ n < 10 ^ i ∧ (i ≤ 9)) (0 : Int) ⟨by decide, by decide, by decide⟩ (fun i x n hx hI => ?_) (fun n _ => ?_)
  ·exact this.trans (by rw [jQl]; rfl)
  ·have hi := jjy hx
   have hw : Sm i := by unfold Sm at *; simp only at hs; omega
   obtain ⟨h0, h1, h6⟩ := hI
   refine ⟨?_, fun s' h' => ?_⟩
   ·simp only [g171_122, jjB hi, cond_true, jxw, jju, hx, Option.bind_some, jjk hw, dlt, dgt, dge]
    cases hd : jzQ x with
    | false =>
     unfold jzQ at hd
     by_cases h4 : (48 : Int) ≤ (x.toNat : Int) <;> by_cases h5 : (x.toNat : Int) ≤ 57 <;> simp [h4, h5] at hd ⊢
    | true =>
     obtain ⟨h4, h5⟩ := jql hd
     have := step_wrap (i := i) hd (by omega) h0 h1
     simp only [h4, h5, decide_true, Bool.not_true, Bool.not_false, cond_true, cond_false, Option.bind_some, jju, hx, this, jjk hw, Bool.and_true, Option.map_some]
   ·simp only [Option.some.injEq] at h'
    cases hq : jzQ x with
    | false => rw [hq] at h'; cases h'
    | true =>
     rw [hq] at h'
     simp only [cond_true, Sum.inl.injEq] at h'
     subst h'
     have := step_bounds hq h0 h1
     exact ⟨this.1, this.2, by omega⟩
  ·simp only [g171_122, jjC, cond_false]
 rw [jjZ] at key
 cases s with
 | nil => rfl
 | cons b r =>
  have hb : ix (b :: r) 0 = some b := rfl
  have he : ((b :: r) == ([] : Str)) = false := rfl
  have hl : decide (((b :: r).length : Int) > 1) = !(r == []) := by cases r <;> simp; omega
  have h9 : decide (((b :: r).length : Int) > 9) = !decide ((b :: r).length ≤ 9) := by by_cases h : (b :: r).length ≤ 9 <;> simp only [h, decide_true, decide_false, Bool.not_true, Bool.not_false, decide_eq_true_eq, decide_eq_false_iff_not] <;> omega
  have hlead : leadB (b :: r) = (!(r == []) && (b.toNat : Int) == 48) := by cases r <;> rfl
  simp only [f171, g171_12, he, hl, h9, Bool.not_false, cond_true, Bool.not_not, hb, Option.bind_some]
  have fin : (b :: r).length ≤ 9 → leadB (b :: r) = false → ((jJK ((b :: r, ((999 : Int), ((0 : Int), (((b :: r).length : Int), ((0 : Int), ()))))), ())).bind fun r752 => match r752 with
    | .inl r753 => some ((r753.1.1, (r753.1.2.1, ())), ())
    | .inr r754 => bif decide (r754.1.2.1 > r754.1.1) then some (((0 : Int), (false, ())), ()) else some ((r754.1.2.1, (true, ())), ())) =
    some ((bif numB (b :: r) then valN (b :: r) else 0, (numB (b :: r), ())), ()) := by
   intro h9 hlf
   rw [key h9]
   unfold numB
   rw [he, hlf]
   cases hd : List.all (b :: r) jzQ with
   | false => rfl
   | true =>
    simp only [cond_true, Option.bind_some, Bool.not_false, Bool.true_and, dgt]
    by_cases h6 : (b :: r).length ≤ 6
    ·simp only [h6, decide_true, Bool.true_and]
     cases decide (valN (b :: r) ≤ 999) <;> rfl
    ·have := val_big hd hlf (by omega)
     have : decide (valN (b :: r) ≤ 999) = false := by simp only [decide_eq_false_iff_not]; omega
     rw [this]
     simp only [h6, decide_false, Bool.false_and]
     rfl
  by_cases hq : (b :: r).length ≤ 9
  ·simp only [hq, decide_true, cond_true]
   cases hr : (r == []) with
   | true =>
    simp only [Bool.not_true, cond_false, Option.bind_some]
    exact fin hq (by rw [hlead, hr]; rfl)
   | false =>
    simp only [Bool.not_false, cond_true, Option.bind_some]
    cases h48 : ((b.toNat : Int) == 48) with
    | true =>
     have : numB (b :: r) = false := by unfold numB; rw [hlead, hr, h48]; simp
     rw [this]; rfl
    | false =>
     simp only [cond_false]
     exact fin hq (by rw [hlead, hr, h48]; rfl)
  ·have : numB (b :: r) = false := by
    unfold numB
    have : decide ((b :: r).length ≤ 6) = false := by simp only [decide_eq_false_iff_not]; omega
    rw [this]; simp
   simp only [hq, decide_false, cond_false, Option.bind_some, cond_true, this]
noncomputable def c208 : Ctx := { tt := tt, fs := fun n => match n with | _ => none }
theorem k208 (h : ∀ T, (tt T).ok Tryz.prog T) : CtxGood Tryz.prog c208 := ⟨⟨h⟩, fun g S hg => (by cases hg), jjq, fun _ _ h => (by cases h), fun _ h => (by cases h)⟩
noncomputable def b208 : Code := jjh Tryz.f208
@[reducible] noncomputable def s208_122 : Shape := ⟨[(0, .lf (.d (.str))), (1, .lf (.d (.int .u8))), (2, .lf (.d (.int .i64))), (7, .lf (.own 3000448)), (8, .lf (.d (.int .i64))), (9, .lf (.d (.int .i64)))], [(3000448, .row .str, .slot 7 0)], 43⟩
@[reducible] noncomputable def jxP : List OSh := [(.exit 0, ⟨[(0, .lf (.d (.str))), (7, .lf (.own 3000448)), (8, .lf (.d (.int .i64)))], [(3000448, .row .str, .slot 7 0)], 43⟩)]
noncomputable def g208_122 (y : s208_122.Y) : Option (Sum s208_122.Y (YS jxP)) :=
 bif (decide (y.1.2.2.2.2.2.1 < (y.1.1.length : Int))) then
 bif (decide ((y.2.1.length : Int) < y.1.2.2.1)) then
(ix y.1.1 y.1.2.2.2.2.2.1).bind fun x76 =>
 bif ((x76.toNat : Int) == y.1.2.1) then
(jqM y.1.1 y.1.2.2.2.2.1 y.1.2.2.2.2.2.1).bind fun x79 =>
(apd 16 y.2.1 ([x79] : List Str)).bind fun x80 =>
 some (.inl ((y.1.1, (y.1.2.1, (y.1.2.2.1, ((), ((IntKind.i64.wrap (y.1.2.2.2.2.2.1 + (1 : Int))), ((IntKind.i64.wrap (y.1.2.2.2.2.2.1 + (1 : Int))), ())))))), (x80, ())))
else
 some (.inl ((y.1.1, (y.1.2.1, (y.1.2.2.1, ((), (y.1.2.2.2.2.1, ((IntKind.i64.wrap (y.1.2.2.2.2.2.1 + (1 : Int))), ())))))), (y.2.1, ())))
else
 some (.inr (((y.1.1, ((), (y.1.2.2.2.2.1, ()))), (y.2.1, ()))))
else
 some (.inr (((y.1.1, ((), (y.1.2.2.2.2.1, ()))), (y.2.1, ()))))
theorem r208_122 : ∀ y, g208_122 y = jjz (jjd c208 []) (jjl (jjc b208 1 122)) 122 s208_122 jxP y := fun y => by kernel_rfl
noncomputable def l208_122 : s208_122.Y → Option (YS jxP) := jjD g208_122
theorem q208_122 (H : CtxGood Tryz.prog c208) : jjn Tryz.prog (jjc b208 1 122) (jjb s208_122 jxP l208_122) :=
 jjt (fr := []) H (by kernel_rfl) (by kernel_rfl) jje (fun y => jji r208_122 y)
@[reducible] noncomputable def i208 : Shape := ⟨[(0, .lf (.d (.str))), (1, .lf (.d (.int .u8))), (2, .lf (.d (.int .i64)))], [], 43⟩
@[reducible] noncomputable def o208 : Shape := ⟨[(6, .lf (.own 3000384))], [(3000384, .row .str, .slot 6 0)], 43⟩
noncomputable def f208 (a : i208.Y) : Option o208.Y :=
(l208_122 ((a.1.1, (a.1.2.1, (a.1.2.2.1, ((), ((0 : Int), ((0 : Int), ())))))), (([] : List Str), ()))).bind fun r86 =>
(jqM r86.1.1 r86.1.2.2.1 (r86.1.1.length : Int)).bind fun x87 =>
(apd 16 r86.2.1 ([x87] : List Str)).bind fun x88 =>
 some (((), ()), (x88, ()))
theorem e208 : ∀ a, f208 a = jjp (jjd c208 [(122, jjb s208_122 jxP l208_122)]) b208 i208 o208 a := fun a => by kernel_rfl
noncomputable def S208 : jjG := jjf tt 43 i208 o208 [.tmp 6] [] f208
theorem z208 (h : ∀ T, (tt T).ok Tryz.prog T) : jja Tryz.prog 208 S208 :=
 have H := k208 h
 jjj (fn := Tryz.f208) (fr := [(122, jjb s208_122 jxP l208_122)]) H (by kernel_rfl) (by kernel_rfl) (by kernel_rfl) (by kernel_rfl) (by kernel_rfl) ⟨q208_122 H, trivial⟩ (by kernel_rfl) (fun y => ⟨_, _, rfl, rfl, rfl⟩) e208
abbrev Bd (n : Nat) : Prop := n ≤ 2097152
theorem jJd (c : UInt8) : ∀ s, jjw c s ≠ [] := by
 intro s
 induction s with
 | nil => intro h; cases h
 | cons b r ih =>
  unfold jjw
  cases b == c with
  | true => intro h; cases h
  | false =>
   simp only [cond_false]
   split <;> intro h <;> cases h
def glue (acc : Str) : List Str → List Str
 | x :: xs => (acc ++ x) :: xs
 | [] => [acc]
theorem glue_nil {L : List Str} (h : L ≠ []) : glue [] L = L := by
 cases L with
 | nil => exact absurd rfl h
 | cons x xs => rfl
theorem jqY (c : UInt8) : ∀ s, (jjw c s).length ≤ s.length + 1 := by
 intro s
 induction s with
 | nil => exact Nat.le_refl _
 | cons b r ih =>
  unfold jjw
  cases b == c with
  | true => simpa using ih
  | false =>
   simp only [cond_false]
   split
   ·rename_i x xs h; rw [h] at ih; simp at ih ⊢; omega
   ·simp
theorem jqX (c : UInt8) : ∀ s x, x ∈ jjw c s → x.length ≤ s.length := by
 intro s
 induction s with
 | nil => intro x h; simp [jjw] at h; simp [h]
 | cons b r ih =>
  intro x h
  unfold jjw at h
  cases hb : b == c with
  | true =>
   rw [hb, cond_true] at h
   rcases List.mem_cons.1 h with rfl | h
   ·simp
   ·have := ih x h; simp; omega
  | false =>
   rw [hb, cond_false] at h
   split at h
   ·rename_i y ys hy
    rcases List.mem_cons.1 h with rfl | h
    ·have := ih y (by rw [hy]; exact List.mem_cons_self); simp; omega
    ·have := ih x (by rw [hy]; exact List.mem_cons_of_mem _ h); simp; omega
   ·simp at h; simp [h]
theorem cut_fold {B : Type} (c : UInt8) (s : Str) (fin : Nat × List Str → B) : ∀ (r : Str) (k : Nat) (q : Nat × List Str), r = s.drop k → k ≤ s.length → q.1 ≤ k →
  ∃ q', jqC (fun i x (q : Nat × List Str) => some (.inl (bif (x.toNat : Int) == (c.toNat : Int) then (i + 1, q.2 ++ [(s.take i).drop q.1]) else q) : Sum (Nat × List Str) B)) fin k r q = some (fin q') ∧ q'.1 ≤ s.length ∧
   q'.2 ++ [s.drop q'.1] = q.2 ++ glue ((s.take k).drop q.1) (jjw c r) := by
 intro r
 induction r with
 | nil =>
  intro k q hr hk hq
  have hkl : k = s.length := by
   have := congrArg List.length hr
   simp at this; omega
  refine ⟨q, rfl, by omega, ?_⟩
  rw [hkl, List.take_length]
  simp [jjw, glue]
 | cons x r ih =>
  intro k q hr hk hq
  have hlt : k < s.length := by
   have := congrArg List.length hr
   simp at this; omega
  have hr' : r = s.drop (k + 1) := by
   have := congrArg List.tail hr
   simpa using this
  have hx : s[k]? = some x := by
   have := congrArg (fun l => l[0]?) hr
   simpa using this.symm
  simp only [jqC]
  cases hc : ((x.toNat : Int) == (c.toNat : Int)) with
  | true =>
   have hxc : x = c := by
    simp only [beq_iff_eq] at hc
    exact UInt8.toNat_inj.1 (by omega)
   simp only [cond_true]
   obtain ⟨q', h1, h2, h3⟩ := ih (k + 1) (k + 1, q.2 ++ [(s.take k).drop q.1]) hr' hlt (Nat.le_refl _)
   refine ⟨q', h1, h2, h3.trans ?_⟩
   have e1 : (s.take (k + 1)).drop (k + 1) = [] := List.drop_eq_nil_of_le (by rw [List.length_take]; omega)
   simp only [e1]
   rw [glue_nil (jJd c r)]
   subst hxc
   have : jjw x (x :: r) = [] :: jjw x r := by simp [jjw]
   rw [this]
   simp [glue]
  | false =>
   have hxc : (x == c) = false := by
    cases h : x == c with
    | false => rfl
    | true => rw [eq_of_beq h] at hc; simp at hc
   simp only [cond_false]
   obtain ⟨q', h1, h2, h3⟩ := ih (k + 1) q hr' hlt (by omega)
   refine ⟨q', h1, h2, h3.trans ?_⟩
   have e1 : (s.take (k + 1)).drop q.1 = (s.take k).drop q.1 ++ [x] := by
    rw [List.take_add_one, hx]
    rw [List.drop_append_of_le_length (by rw [List.length_take]; omega)]
    rfl
   rw [e1]
   have : jjw c (x :: r) = glue [x] (jjw c r) := by
    rw [jjw, hxc, cond_false]
    cases h : jjw c r with
    | nil => rfl
    | cons y ys => rfl
   rw [this]
   cases h : jjw c r with
   | nil => exact absurd h (jJd c r)
   | cons y ys => simp [glue]
theorem v_l1Cut (c : UInt8) (a) (hs : Bd a.1.1.length) (hb : a.1.2.1 = (c.toNat : Int)) (hm : a.1.2.2.1 = ((a.1.1.length + 1 : Nat) : Int)) : f208 a = some (((), ()), (jjw c a.1.1, ())) := by
 obtain ⟨⟨s, b, m, u⟩, u'⟩ := a
 obtain rfl : b = (c.toNat : Int) := hb
 obtain rfl : m = ((s.length + 1 : Nat) : Int) := hm
 have hs : s.length ≤ 2097152 := hs
 have key := jq3 g208_122 s (fun i (q : Nat × List Str) => ((s, ((c.toNat : Int), (((s.length + 1 : Nat) : Int), ((), ((q.1 : Int), ((i : Int), ())))))), (q.2, ())))
  (fun i x (q : Nat × List Str) => some (.inl (bif (x.toNat : Int) == (c.toNat : Int) then (i + 1, q.2 ++ [(s.take i).drop q.1]) else q))) (fun q => (((s, ((), ((q.1 : Int), ()))), (q.2, ())) : YS jxP))
  (fun i q => q.1 ≤ i ∧ q.2.length ≤ i) (0, []) ⟨Nat.le_refl _, Nat.le_refl _⟩ (fun i x q hx hI => ?_) (fun q hI => ?_)
 ·obtain ⟨q', h1, h2, h3⟩ := cut_fold c s (fun q => (((s, ((), ((q.1 : Int), ()))), (q.2, ())) : YS jxP)) s 0 (0, []) rfl (Nat.zero_le _) (Nat.le_refl _)
  have key : l208_122 ((s, ((c.toNat : Int), (((s.length + 1 : Nat) : Int), ((), ((0 : Int), ((0 : Int), ())))))), (([] : List Str), ())) = some ((s, ((), ((q'.1 : Int), ()))), (q'.2, ())) := key.trans h1
  simp only [f208, key, Option.bind_some]
  rw [jxB h2]
  have h3 : q'.2 ++ [s.drop q'.1] = jjw c s := by
   rw [h3]; simp only [List.take_zero, List.drop_nil, List.nil_append]
   exact glue_nil (jJd c s)
  have hl : q'.2.length ≤ s.length + 1 := by
   have := congrArg List.length h3
   have h4 := jqY c s
   simp only [List.length_append, List.length_cons, List.length_nil] at this
   omega
  simp only [Option.bind_some]
  rw [jqd (by decide) (by unfold Sm; simp only [List.length_cons, List.length_nil]; omega)]
  simp only [Option.bind_some, h3]
 ·have hi := jjy hx
  have hw : Sm i := by unfold Sm; omega
  obtain ⟨h0, h1⟩ := hI
  have hlt : decide ((q.2.length : Int) < ((s.length + 1 : Nat) : Int)) = true := jjB (by omega)
  refine ⟨?_, fun q' hq' => ?_⟩
  ·simp only [g208_122, jjB hi, cond_true, hlt, jju, hx, Option.bind_some]
   cases hc : ((x.toNat : Int) == (c.toNat : Int)) with
   | true =>
    simp only [cond_true]
    rw [subl_nat h0 (by omega)]
    simp only [Option.bind_some]
    rw [jqd (by decide) (by unfold Sm; simp only [List.length_cons, List.length_nil]; omega)]
    simp only [Option.bind_some, Option.map_some, jjk hw]
   | false => simp only [cond_false, Option.map_some, jjk hw]
  ·simp only [Option.some.injEq, Sum.inl.injEq] at hq'
   subst hq'
   cases (x.toNat : Int) == (c.toNat : Int) with
   | true => simp only [cond_true, List.length_append, List.length_cons, List.length_nil]; omega
   | false => simp only [cond_false]; omega
 ·simp only [g208_122, jjC, cond_false]
noncomputable def c129 : Ctx := { tt := tt, fs := fun n => match n with | 171 => some S171 | _ => none, sp := fun n => match n with | 155 => some 219 | _ => none }
theorem k129 (h : ∀ T, (tt T).ok Tryz.prog T) (h171 : jja Tryz.prog 171 S171) (hY : jQo Tryz.prog 155 219) (hI : jzm Tryz.prog 219) : CtxGood Tryz.prog c129 := ⟨⟨h⟩, fun g S hg => (by
 simp only [c129] at hg
 split at hg
 ·cases hg; exact h171
 ·cases hg), jjq, fun g g2 hg => (by
 simp only [c129] at hg
 split at hg
 ·cases hg; exact hY
 ·cases hg), fun _ h => (by cases h)⟩
noncomputable def b129 : Code := jjh Tryz.f129
@[reducible] noncomputable def s129_1876 : Shape := ⟨[(2, .lf (.ptr 2 0)), (3, .lf (.ptr 3 0)), (4, .lf (.ptr 4 0)), (6, .lf (.d (.int .i64))), (7, .lf (.d (.bool)))], [(5000128, .row .i64, .cell 2 0), (2, .box [.own 5000128], .same), (3, .box [.d (.bool)], .same), (5000256, .row .i64, .cell 4 0), (4, .box [.own 5000256], .same)], 28⟩
@[reducible] noncomputable def jJa : List OSh := [(.norm, ⟨[(2, .lf (.ptr 2 0)), (3, .lf (.ptr 3 0)), (4, .lf (.ptr 4 0)), (6, .lf (.d (.int .i64))), (22, .lf (.d (.bool)))], [(5000128, .row .i64, .cell 2 0), (2, .box [.own 5000128], .same), (3, .box [.d (.bool)], .same), (5000256, .row .i64, .cell 4 0), (4, .box [.own 5000256], .same)], 28⟩)]
noncomputable def jzf (y : s129_1876.Y) : Option (YS jJa) :=
 bif (!(!y.1.2.2.2.2.1)) then
 some ((((), ((), ((), (y.1.2.2.2.1, (((y.2.2.2.2.1.length : Int) == (4 : Int)), ()))))), (y.2.1, (((), ()), ((y.2.2.2.1.1, ()), (y.2.2.2.2.1, (((), ()), ())))))))
else
 some ((((), ((), ((), (y.1.2.2.2.1, (true, ()))))), (y.2.1, (((), ()), ((y.2.2.2.1.1, ()), (y.2.2.2.2.1, (((), ()), ())))))))
theorem r129_1876 : ∀ y, jzf y = jjM (jjd c129 []) (jjc (jzM (jjc b129 1 58)) 117 1876) 1876 s129_1876 jJa y := fun y => by kernel_rfl
theorem q129_1876 (H : CtxGood Tryz.prog c129) (hI : jzm Tryz.prog 219) : jjn Tryz.prog (jjc (jzM (jjc b129 1 58)) 117 1876) (jjb s129_1876 jJa jzf) :=
 jjv (fr := []) H (by kernel_rfl) jje r129_1876
@[reducible] noncomputable def s129_58 : Shape := ⟨[(2, .lf (.ptr 2 0)), (3, .lf (.ptr 3 0)), (4, .lf (.ptr 4 0))], [(5000128, .row .i64, .cell 2 0), (2, .box [.own 5000128], .same), (3, .box [.d (.bool)], .same), (5000256, .row .i64, .cell 4 0), (4, .box [.own 5000256], .same)], 28⟩
@[reducible] noncomputable def t129_58 : List OSh := [(.norm, ⟨[(2, .lf (.ptr 2 0)), (3, .lf (.ptr 3 0)), (4, .lf (.ptr 4 0))], [(5000128, .row .i64, .cell 2 0), (2, .box [.own 5000128], .same), (3, .box [.d (.bool)], .same), (5000256, .row .i64, .cell 4 0), (4, .box [.own 5000256], .same)], 28⟩), (.ret, ⟨[(2, .lf (.ptr 2 0)), (3, .lf (.ptr 3 0))], [(5000128, .row .i64, .cell 2 0), (2, .box [.own 5000128], .same), (3, .box [.d (.bool)], .same)], 28⟩)]
noncomputable def jzE (x : Str) (y : s129_58.Y) : Option (Sum s129_58.Y (YS t129_58)) :=
(f171 ((x, ((999 : Int), ())), ())).bind fun r1421 =>
(jzf (((), ((), ((), (r1421.1.1, (r1421.1.2.1, ()))))), (y.2.1, (((), ()), ((y.2.2.2.1.1, ()), (y.2.2.2.2.1, (((), ()), ()))))))).bind fun r1423 =>
 bif r1423.1.2.2.2.2.1 then
 some (.inr (.inr (((), ((), ())), (([] : List Int), (((), ()), ((false, ()), ()))))))
else
(apd 8 r1423.2.2.2.2.1 ([r1423.1.2.2.2.1] : List Int)).bind fun x1424 =>
 some (.inl (((), ((), ((), ()))), (r1423.2.1, (((), ()), ((r1423.2.2.2.1.1, ()), (x1424, (((), ()), ())))))))
noncomputable def jQg (y : s129_58.Y) : Option (YS t129_58) := some (.inl (((), ((), ((), ()))), (y.2.1, (((), ()), ((y.2.2.2.1.1, ()), (y.2.2.2.2.1, (((), ()), ())))))))
theorem r129_58 : ∀ x y, jzE x y = roundP (jjd c129 [(1876, jjb s129_1876 jJa jzf)]) (jzt (jjc b129 1 58)) (jzM (jjc b129 1 58)) 58 10 s129_58 t129_58 x y := fun x y => by kernel_rfl
theorem q129_58 (H : CtxGood Tryz.prog c129) (hI : jzm Tryz.prog 219) : jjn Tryz.prog (jjc b129 1 58) (jxk 219 9 s129_58 t129_58 jzE jQg) :=
 range_at (fr := [(1876, jjb s129_1876 jJa jzf)]) (prm := 10) H hI (by kernel_rfl) (by kernel_rfl) (by kernel_rfl) ⟨q129_1876 H hI, trivial⟩ r129_58 (fun y => by kernel_rfl) (by kernel_rfl) (by kernel_rfl) (by kernel_rfl) (by kernel_rfl) (by kernel_rfl)
@[reducible] noncomputable def i129 : Shape := ⟨[(0, .lf (.d (.str)))], [], 28⟩
@[reducible] noncomputable def o129 : Shape := ⟨[(2, .lf (.ptr 2 0)), (3, .lf (.ptr 3 0))], [(5000128, .row .i64, .cell 2 0), (2, .box [.own 5000128], .same), (3, .box [.d (.bool)], .same)], 28⟩
noncomputable def f129 (a : i129.Y) : Option o129.Y :=
(bif Nat.ble a.1.1.length jzj then jzT jzE jQg (jjw (46 : UInt8) a.1.1) (((), ((), ((), ()))), (([] : List Int), (((), ()), ((false, ()), (([] : List Int), (((), ()), ())))))) else none).bind fun r1434 =>
(match r1434 with
| .inl r1435 =>
 some (((), ((), ())), (r1435.2.2.2.2.1, (((), ()), ((true, ()), ()))))
| .inr r1436 =>
 some (((), ((), ())), (r1436.2.1, (((), ()), ((r1436.2.2.2.1.1, ()), ())))))
theorem e129 : ∀ a, f129 a = jjp (jjd c129 [(58, jxk 219 9 s129_58 t129_58 jzE jQg)]) b129 i129 o129 a := fun a => by kernel_rfl
noncomputable def S129 : jjG := jjf tt 28 i129 o129 [.cell 2 139, .cell 3 4] [] f129
theorem z129 (h : ∀ T, (tt T).ok Tryz.prog T) (h171 : jja Tryz.prog 171 S171) (hY : jQo Tryz.prog 155 219) (hI : jzm Tryz.prog 219) : jja Tryz.prog 129 S129 :=
 have H := k129 h h171 hY hI
 jjj (fn := Tryz.f129) (fr := [(58, jxk 219 9 s129_58 t129_58 jzE jQg)]) H (by kernel_rfl) (by kernel_rfl) (by kernel_rfl) (by kernel_rfl) (by kernel_rfl) ⟨q129_58 H hI, trivial⟩ (by kernel_rfl) (fun y => ⟨_, _, rfl, rfl, rfl⟩) e129
noncomputable def c109 : Ctx := { tt := tt, fs := fun n => match n with | 129 => some S129 | _ => none }
theorem k109 (h : ∀ T, (tt T).ok Tryz.prog T) (h129 : jja Tryz.prog 129 S129) : CtxGood Tryz.prog c109 := ⟨⟨h⟩, fun g S hg => (by
 simp only [c109] at hg
 split at hg
 ·cases hg; exact h129
 ·cases hg), jjq, fun _ _ h => (by cases h), fun _ h => (by cases h)⟩
noncomputable def b109 : Code := jjh Tryz.f109
@[reducible] noncomputable def i109 : Shape := ⟨[(0, .lf (.d (.str)))], [], 11⟩
@[reducible] noncomputable def o109 : Shape := ⟨[(2, .lf (.d (.bool)))], [], 11⟩
noncomputable def f109 (a : i109.Y) : Option o109.Y :=
(f129 ((a.1.1, ()), ())).bind fun r1438 =>
 some ((r1438.2.2.2.1.1, ()), ())
theorem e109 : ∀ a, f109 a = jjp (jjd c109 []) b109 i109 o109 a := fun a => by kernel_rfl
noncomputable def S109 : jjG := jjf tt 11 i109 o109 [.tmp 2] [] f109
theorem z109 (h : ∀ T, (tt T).ok Tryz.prog T) (h129 : jja Tryz.prog 129 S129) : jja Tryz.prog 109 S109 :=
 have H := k109 h h129
 jjj (fn := Tryz.f109) (fr := []) H (by kernel_rfl) (by kernel_rfl) (by kernel_rfl) (by kernel_rfl) (by kernel_rfl) jje (by kernel_rfl) (fun y => ⟨_, _, rfl, rfl, rfl⟩) e109
noncomputable def c111 : Ctx := { tt := tt, fs := fun n => match n with | 108 => some S108 | 109 => some S109 | _ => none }
theorem k111 (h : ∀ T, (tt T).ok Tryz.prog T) (h108 : jja Tryz.prog 108 S108) (h109 : jja Tryz.prog 109 S109) : CtxGood Tryz.prog c111 := ⟨⟨h⟩, fun g S hg => (by
 simp only [c111] at hg
 split at hg
 ·cases hg; exact h108
 ·cases hg; exact h109
 ·cases hg), jjq, fun _ _ h => (by cases h), fun _ h => (by cases h)⟩
noncomputable def b111 : Code := jjh Tryz.f111
@[reducible] noncomputable def s111_470 : Shape := ⟨[(1, .lf (.ptr 1 0)), (8, .lf (.d (.int .i64)))], [(1, .box [.d (.str), .d (.int .i64), .d (.str)], .same)], 21⟩
@[reducible] noncomputable def t111_470 : List OSh := [(.norm, ⟨[(1, .lf (.ptr 1 0)), (14, .lf (.d (.bool)))], [(1, .box [.d (.str), .d (.int .i64), .d (.str)], .same)], 21⟩)]
noncomputable def jJU (y : s111_470.Y) : Option (YS t111_470) :=
 bif (y.1.2.1 == (1 : Int)) then
 some ((((), ((y.1.2.1 == (1 : Int)), ())), ((y.2.1.1, (y.2.1.2.1, (y.2.1.2.2.1, ()))), ())))
else
 bif (y.1.2.1 == (2 : Int)) then
 some ((((), ((y.1.2.1 == (2 : Int)), ())), ((y.2.1.1, (y.2.1.2.1, (y.2.1.2.2.1, ()))), ())))
else
 some ((((), ((y.1.2.1 == (3 : Int)), ())), ((y.2.1.1, (y.2.1.2.1, (y.2.1.2.2.1, ()))), ())))
theorem r111_470 : ∀ y, jJU y = jjM (jjd c111 []) (jjc b111 1 470) 470 s111_470 t111_470 y := fun y => by kernel_rfl
theorem q111_470 (H : CtxGood Tryz.prog c111) : jjn Tryz.prog (jjc b111 1 470) (jjb s111_470 t111_470 jJU) :=
 jjv (fr := []) H (by kernel_rfl) jje r111_470
@[reducible] noncomputable def i111 : Shape := ⟨[(0, .agg [.d (.str), .d (.int .i64), .d (.str)])], [], 21⟩
@[reducible] noncomputable def o111 : Shape := ⟨[(2, .lf (.d (.bool)))], [], 21⟩
noncomputable def f111 (a : i111.Y) : Option o111.Y :=
(f108 ((a.1.1.1, ()), ())).bind fun r1455 =>
 bif (!r1455.1.1) then
 some ((false, ()), ())
else
 bif (a.1.1.2.1 == (0 : Int)) then
 some (((a.1.1.2.2.1 == ([] : Str)), ()), ())
else
(jJU (((), (a.1.1.2.1, ())), ((a.1.1.1, (a.1.1.2.1, (a.1.1.2.2.1, ()))), ()))).bind fun r1456 =>
 bif r1456.1.2.1 then
(f109 ((r1456.2.1.2.2.1, ()), ())).bind fun r1457 =>
 some ((r1457.1.1, ()), ())
else
 some ((false, ()), ())
theorem e111 : ∀ a, f111 a = jjp (jjd c111 [(470, jjb s111_470 t111_470 jJU)]) b111 i111 o111 a := fun a => by kernel_rfl
noncomputable def S111 : jjG := jjf tt 21 i111 o111 [.tmp 2] [] f111
theorem z111 (h : ∀ T, (tt T).ok Tryz.prog T) (h108 : jja Tryz.prog 108 S108) (h109 : jja Tryz.prog 109 S109) : jja Tryz.prog 111 S111 :=
 have H := k111 h h108 h109
 jjj (fn := Tryz.f111) (fr := [(470, jjb s111_470 t111_470 jJU)]) H (by kernel_rfl) (by kernel_rfl) (by kernel_rfl) (by kernel_rfl) (by kernel_rfl) ⟨q111_470 H, trivial⟩ (by kernel_rfl) (fun y => ⟨_, _, rfl, rfl, rfl⟩) e111
noncomputable def c173 : Ctx := { tt := tt, fs := fun n => match n with | 192 => some S192 | 208 => some S208 | 209 => some S209 | _ => none }
theorem k173 (h : ∀ T, (tt T).ok Tryz.prog T) (h192 : jja Tryz.prog 192 S192) (h208 : jja Tryz.prog 208 S208) (h209 : jja Tryz.prog 209 S209) : CtxGood Tryz.prog c173 := ⟨⟨h⟩, fun g S hg => (by
 simp only [c173] at hg
 split at hg
 ·cases hg; exact h192
 ·cases hg; exact h208
 ·cases hg; exact h209
 ·cases hg), jjq, fun _ _ h => (by cases h), fun _ h => (by cases h)⟩
noncomputable def b173 : Code := jjh Tryz.f173
@[reducible] noncomputable def s173_122 : Shape := ⟨[(4, .lf (.own 3000256)), (5, .lf (.own 3000320)), (6, .lf (.d (.int .i64)))], [(3000256, .row .str, .slot 4 0), (3000320, .row .i64, .slot 5 0)], 37⟩
@[reducible] noncomputable def jq2 : List OSh := [(.ret, ⟨[(2, .lf (.own 3000128)), (3, .lf (.d (.bool)))], [(3000128, .row .i64, .slot 2 0)], 37⟩), (.exit 0, ⟨[(4, .lf (.own 3000256)), (5, .lf (.own 3000320))], [(3000256, .row .str, .slot 4 0), (3000320, .row .i64, .slot 5 0)], 37⟩)]
noncomputable def g173_122 (y : s173_122.Y) : Option (Sum s173_122.Y (YS jq2)) :=
 bif (decide (y.1.2.2.1 < (y.2.1.length : Int))) then
(inb y.2.1.length y.1.2.2.1).bind fun x811 =>
(y.2.1[x811]?).bind fun x812 =>
(f209 ((x812, ()), ())).bind fun r813 =>
(f192 ((r813.1.1, ((0 : Int), ((999 : Int), ()))), ())).bind fun r817 =>
 bif (!r817.1.1) then
 some (.inr (.inl (((), (false, ())), (y.2.2.1, ()))))
else
(apd 8 y.2.2.1 ([r813.1.1] : List Int)).bind fun x818 =>
 some (.inl (((), ((), ((IntKind.i64.wrap (y.1.2.2.1 + (1 : Int))), ()))), (y.2.1, (x818, ()))))
else
 some (.inr (.inr (((), ((), ())), (y.2.1, (y.2.2.1, ())))))
theorem r173_122 : ∀ y, g173_122 y = jjz (jjd c173 []) (jjl (jjc b173 1 122)) 122 s173_122 jq2 y := fun y => by kernel_rfl
noncomputable def l173_122 : s173_122.Y → Option (YS jq2) := jjD g173_122
theorem q173_122 (H : CtxGood Tryz.prog c173) : jjn Tryz.prog (jjc b173 1 122) (jjb s173_122 jq2 l173_122) :=
 jjt (fr := []) H (by kernel_rfl) (by kernel_rfl) jje (fun y => jji r173_122 y)
@[reducible] noncomputable def i173 : Shape := ⟨[(0, .lf (.d (.str)))], [], 37⟩
@[reducible] noncomputable def o173 : Shape := ⟨[(2, .lf (.own 3000128)), (3, .lf (.d (.bool)))], [(3000128, .row .i64, .slot 2 0)], 37⟩
noncomputable def f173 (a : i173.Y) : Option o173.Y :=
(f208 ((a.1.1, ((46 : Int), ((IntKind.i64.wrap ((a.1.1.length : Int) + (1 : Int))), ()))), ())).bind fun r826 =>
(l173_122 (((), ((), ((0 : Int), ()))), (r826.2.1, (([] : List Int), ())))).bind fun r830 =>
(match r830 with
| .inl r831 =>
 some (((), (r831.1.2.1, ())), (r831.2.1, ()))
| .inr r832 =>
 some (((), ((decide ((r832.2.1.length : Int) ≤ (4 : Int))), ())), (r832.2.2.1, ())))
theorem e173 : ∀ a, f173 a = jjp (jjd c173 [(122, jjb s173_122 jq2 l173_122)]) b173 i173 o173 a := fun a => by kernel_rfl
noncomputable def S173 : jjG := jjf tt 37 i173 o173 [.tmp 2, .tmp 3] [] f173
theorem z173 (h : ∀ T, (tt T).ok Tryz.prog T) (h192 : jja Tryz.prog 192 S192) (h208 : jja Tryz.prog 208 S208) (h209 : jja Tryz.prog 209 S209) : jja Tryz.prog 173 S173 :=
 have H := k173 h h192 h208 h209
 jjj (fn := Tryz.f173) (fr := [(122, jjb s173_122 jq2 l173_122)]) H (by kernel_rfl) (by kernel_rfl) (by kernel_rfl) (by kernel_rfl) (by kernel_rfl) ⟨q173_122 H, trivial⟩ (by kernel_rfl) (fun y => ⟨_, _, rfl, rfl, rfl⟩) e173
noncomputable def c152 : Ctx := { tt := tt, fs := fun n => match n with | 173 => some S173 | _ => none }
theorem k152 (h : ∀ T, (tt T).ok Tryz.prog T) (h173 : jja Tryz.prog 173 S173) : CtxGood Tryz.prog c152 := ⟨⟨h⟩, fun g S hg => (by
 simp only [c152] at hg
 split at hg
 ·cases hg; exact h173
 ·cases hg), jjq, fun _ _ h => (by cases h), fun _ h => (by cases h)⟩
noncomputable def b152 : Code := jjh Tryz.f152
@[reducible] noncomputable def i152 : Shape := ⟨[(0, .lf (.d (.str)))], [], 11⟩
@[reducible] noncomputable def o152 : Shape := ⟨[(2, .lf (.d (.bool)))], [], 11⟩
noncomputable def f152 (a : i152.Y) : Option o152.Y :=
(f173 ((a.1.1, ()), ())).bind fun r834 =>
 some ((r834.1.2.1, ()), ())
theorem e152 : ∀ a, f152 a = jjp (jjd c152 []) b152 i152 o152 a := fun a => by kernel_rfl
noncomputable def S152 : jjG := jjf tt 11 i152 o152 [.tmp 2] [] f152
theorem z152 (h : ∀ T, (tt T).ok Tryz.prog T) (h173 : jja Tryz.prog 173 S173) : jja Tryz.prog 152 S152 :=
 have H := k152 h h173
 jjj (fn := Tryz.f152) (fr := []) H (by kernel_rfl) (by kernel_rfl) (by kernel_rfl) (by kernel_rfl) (by kernel_rfl) jje (by kernel_rfl) (fun y => ⟨_, _, rfl, rfl, rfl⟩) e152
noncomputable def c218 : Ctx := { tt := tt, fs := fun n => match n with | 151 => some S151 | 152 => some S152 | 192 => some S192 | _ => none }
theorem k218 (h : ∀ T, (tt T).ok Tryz.prog T) (h151 : jja Tryz.prog 151 S151) (h152 : jja Tryz.prog 152 S152) (h192 : jja Tryz.prog 192 S192) : CtxGood Tryz.prog c218 := ⟨⟨h⟩, fun g S hg => (by
 simp only [c218] at hg
 split at hg
 ·cases hg; exact h151
 ·cases hg; exact h152
 ·cases hg; exact h192
 ·cases hg), jjq, fun _ _ h => (by cases h), fun _ h => (by cases h)⟩
noncomputable def b218 : Code := jjh Tryz.f218
@[reducible] noncomputable def i218 : Shape := ⟨[(0, .agg [.d (.str), .d (.int .i64), .d (.str)])], [], 26⟩
@[reducible] noncomputable def o218 : Shape := ⟨[(2, .lf (.d (.bool)))], [], 26⟩
noncomputable def f218 (a : i218.Y) : Option o218.Y :=
(f151 ((a.1.1.1, ()), ())).bind fun r848 =>
 bif r848.1.1 then
 bif (a.1.1.2.1 == (0 : Int)) then
 bif (!(a.1.1.2.2.1 == ([] : Str))) then
(f192 ((a.1.1.2.1, ((1 : Int), ((3 : Int), ()))), ())).bind fun r849 =>
 bif r849.1.1 then
(f152 ((a.1.1.2.2.1, ()), ())).bind fun r850 =>
 some ((r850.1.1, ()), ())
else
 some ((false, ()), ())
else
 some ((true, ()), ())
else
(f192 ((a.1.1.2.1, ((1 : Int), ((3 : Int), ()))), ())).bind fun r851 =>
 bif r851.1.1 then
(f152 ((a.1.1.2.2.1, ()), ())).bind fun r852 =>
 some ((r852.1.1, ()), ())
else
 some ((false, ()), ())
else
 some ((false, ()), ())
theorem e218 : ∀ a, f218 a = jjp (jjd c218 []) b218 i218 o218 a := fun a => by kernel_rfl
noncomputable def S218 : jjG := jjf tt 26 i218 o218 [.tmp 2] [] f218
theorem z218 (h : ∀ T, (tt T).ok Tryz.prog T) (h151 : jja Tryz.prog 151 S151) (h152 : jja Tryz.prog 152 S152) (h192 : jja Tryz.prog 192 S192) : jja Tryz.prog 218 S218 :=
 have H := k218 h h151 h152 h192
 jjj (fn := Tryz.f218) (fr := []) H (by kernel_rfl) (by kernel_rfl) (by kernel_rfl) (by kernel_rfl) (by kernel_rfl) jje (by kernel_rfl) (fun y => ⟨_, _, rfl, rfl, rfl⟩) e218
theorem val_nonneg : ∀ (r : Str) (n : Int), r.all jzQ = true → 0 ≤ n → 0 ≤ r.foldl jx7 n := by
 intro r
 induction r with
 | nil => intro n _ h; exact h
 | cons b r ih =>
  intro n hd h
  simp only [List.all_cons, Bool.and_eq_true] at hd
  have hb := jql hd.1
  exact ih _ hd.2 (by unfold jx7; omega)
def jqT (s : Str) : List Str := jjw 46 s
def jj8 (s : Str) : Bool := (jqT s).all numB && decide ((jqT s).length ≤ 4)
def jxX (s : Str) : List Int := (jqT s).map valN
theorem numB_within (x : Str) : jj6 (bif x.all jzQ && decide (x.length ≤ 6) && !(x == []) && !leadB x then valN x else -1) 0 999 = numB x := by
 unfold numB jj6
 cases h1 : x.all jzQ with
 | false => simp
 | true =>
  have := val_nonneg x 0 h1 (Int.le_refl _)
  have hv : decide ((0 : Int) ≤ valN x) = true := by simp only [decide_eq_true_eq]; exact this
  cases h2 : decide (x.length ≤ 6) <;> cases h3 : (x == []) <;> cases h4 : leadB x <;> simp [hv]
theorem v_l3Parts (a) (hs : Bd a.1.1.length) : ∃ out, f173 a = some (((), (jj8 a.1.1, ())), (out, ())) ∧ (jj8 a.1.1 = true → out = jxX a.1.1) := by
 obtain ⟨⟨s, u⟩, u'⟩ := a
 have hs : s.length ≤ 2097152 := hs
 have hlen := jqY 46 s
 have hcut : f208 ((s, ((46 : Int), ((IntKind.i64.wrap ((s.length : Int) + (1 : Int))), ()))), ()) = some (((), ()), (jqT s, ())) :=
  v_l1Cut 46 _ hs rfl (jjk (by unfold Sm; omega))
 have key := jq3 g173_122 (jqT s) (fun i (out : List Int) => (((), ((), ((i : Int), ()))), (jqT s, (out, ()))))
  (fun i x out => some (bif numB x then .inl (out ++ [valN x]) else .inr ((.inl (((), (false, ())), (out, ()))) : YS jq2))) (fun out => ((.inr (((), ((), ())), (jqT s, (out, ())))) : YS jq2))
  (fun i out => out.length ≤ i) [] (Nat.le_refl _) (fun i x out hx hI => ?_) (fun out _ => ?_)
 ·have fold : ∀ (r : List Str) (k : Nat) (out : List Int), jqC (fun i x out => some (bif numB x then .inl (out ++ [valN x]) else .inr ((.inl (((), (false, ())), (out, ()))) : YS jq2))) (fun out => ((.inr (((), ((), ())), (jqT s, (out, ())))) : YS jq2)) k r out =
    some (bif r.all numB then (.inr (((), ((), ())), (jqT s, (out ++ r.map valN, ())))) else (.inl (((), (false, ())), (out ++ (r.takeWhile numB).map valN, ())))) := by
   intro r
   induction r with
   | nil => intro k out; simp [jqC]
   | cons x r ih =>
    intro k out
    simp only [jqC, List.all_cons]
    cases hn : numB x with
    | false => simp [hn]
    | true => simp only [cond_true, Bool.true_and]; rw [ih]; simp [hn, List.append_assoc]
  have key : l173_122 (((), ((), ((0 : Int), ()))), (jqT s, (([] : List Int), ()))) = _ := key.trans (fold (jqT s) 0 [])
  simp only [f173, hcut, Option.bind_some, key, List.nil_append]
  unfold jj8
  cases hall : (jqT s).all numB with
  | false => exact ⟨_, rfl, fun h => by cases h⟩
  | true =>
   simp only [cond_true, Bool.true_and]
   have : decide (((jqT s).length : Int) ≤ 4) = decide ((jqT s).length ≤ 4) := by by_cases h : (jqT s).length ≤ 4 <;> simp [h] <;> omega
   rw [this]
   exact ⟨_, rfl, fun _ => rfl⟩
 ·have hi := jjy hx
  have hlen' : (jqT s).length ≤ s.length + 1 := hlen
  have hw : Sm i := by unfold Sm; omega
  have hxl : x.length ≤ s.length := jqX 46 s x (List.mem_of_getElem? hx)
  refine ⟨?_, fun s' h' => ?_⟩
  ·simp only [g173_122, jjB hi, cond_true, jzy hi, hx, Option.bind_some]
   rw [v_l1Num _ (show Sm x.length by unfold Sm; omega)]
   simp only [Option.bind_some, v_l1In, numB_within]
   cases hn : numB x with
   | false => rfl
   | true =>
    have hv : (bif x.all jzQ && decide (x.length ≤ 6) && !(x == []) && !leadB x then valN x else -1) = valN x := by
     unfold numB at hn
     simp only [Bool.and_eq_true] at hn
     obtain ⟨⟨⟨⟨h1, h2⟩, h3⟩, h4⟩, h5⟩ := hn
     rw [h1, h4, h2, h3]; rfl
    simp only [Bool.not_true, cond_false, hv, cond_true]
    rw [jqd (by decide) (by unfold Sm; simp only [List.length_cons, List.length_nil]; omega)]
    simp only [Option.bind_some, jjk hw, Option.map_some]
  ·simp only [Option.some.injEq] at h'
   cases hn : numB x with
   | false => rw [hn] at h'; cases h'
   | true =>
    rw [hn] at h'
    simp only [cond_true, Sum.inl.injEq] at h'
    subst h'
    simp only [List.length_append, List.length_cons, List.length_nil]; omega
 ·simp only [g173_122, jjC, cond_false]
theorem v_VersionOk (a) (hs : Bd a.1.1.length) : f152 a = some ((jj8 a.1.1, ()), ()) := by
 obtain ⟨out, h, _⟩ := v_l3Parts ((a.1.1, ()), ()) hs
 simp only [f152, h, Option.bind_some]
theorem jzo (a) (hs : Bd a.1.1.length) : f129 a = some (((), ((), ())), ((bif jj8 a.1.1 then jxX a.1.1 else []), (((), ()), ((jj8 a.1.1, ()), ())))) := by
 obtain ⟨⟨s, u⟩, u'⟩ := a
 have hs : s.length ≤ 2097152 := hs
 have hble : Nat.ble s.length jzj = true := Nat.ble_eq_true_of_le (by unfold jzj; omega)
 have fold : ∀ (r : List Str) (out : List Int), (∀ x, x ∈ r → x.length ≤ s.length) → out.length ≤ 4 →
   jzT jzE jQg r (((), ((), ((), ()))), (([] : List Int), (((), ()), ((false, ()), (out, (((), ()), ())))))) =
    some (bif r.all numB && decide (out.length + r.length ≤ 4) then (.inl (((), ((), ((), ()))), (([] : List Int), (((), ()), ((false, ()), (out ++ r.map valN, (((), ()), ()))))))) else (.inr (((), ((), ())), (([] : List Int), (((), ()), ((false, ()), ())))))) := by
  intro r
  induction r with
  | nil =>
   intro out _ ho
   have : decide (out.length + 0 ≤ 4) = true := by simpa using ho
   simp only [jzT, jQg, List.all_nil, List.length_nil, this, Bool.and_self, cond_true, List.map_nil, List.append_nil]
  | cons x r ih =>
   intro out hr ho
   have hx := hr x List.mem_cons_self
   have hnum := v_number ((x, ((999 : Int), ())), ()) (show Sm x.length by unfold Sm; omega) rfl
   have step : jzE x (((), ((), ((), ()))), (([] : List Int), (((), ()), ((false, ()), (out, (((), ()), ())))))) =
     some (bif numB x && decide (out.length + 1 ≤ 4) then .inl (((), ((), ((), ()))), (([] : List Int), (((), ()), ((false, ()), (out ++ [valN x], (((), ()), ())))))) else .inr (.inr (((), ((), ())), (([] : List Int), (((), ()), ((false, ()), ())))))) := by
    simp only [jzE, hnum, Option.bind_some, jzf, Bool.not_not]
    have h4 : ((out.length : Int) == 4) = !decide (out.length + 1 ≤ 4) := by
     by_cases h : out.length = 4
     ·rw [h]; rfl
     ·have h5 : decide (out.length + 1 ≤ 4) = true := by simp only [decide_eq_true_eq]; omega
      rw [h5]; simp only [beq_eq_false_iff_ne, ne_eq, Bool.not_true]; omega
    rw [h4]
    cases hn : numB x with
    | false => rfl
    | true =>
     simp only [cond_true, Option.bind_some, Bool.true_and]
     cases hq : decide (out.length + 1 ≤ 4) with
     | false => rfl
     | true =>
      simp only [Bool.not_true, cond_false, cond_true]
      rw [jqd (by decide) (by unfold Sm; simp only [List.length_cons, List.length_nil]; omega)]
      rfl
   rw [jzT, step, List.all_cons]
   cases hn : numB x with
   | false => rfl
   | true =>
    simp only [Bool.true_and]
    cases hq : decide (out.length + 1 ≤ 4) with
    | false =>
     have : decide (out.length + (x :: r).length ≤ 4) = false := by simp only [decide_eq_false_iff_not, List.length_cons] at hq ⊢; omega
     rw [this]; simp
    | true =>
     simp only [cond_true]
     rw [ih (out ++ [valN x]) (fun y hy => hr y (List.mem_cons_of_mem _ hy)) (by simp only [List.length_append, List.length_cons, List.length_nil]; simpa using hq)]
     have e1 : (out ++ [valN x]).length + r.length = out.length + (x :: r).length := by simp only [List.length_append, List.length_cons, List.length_nil]; omega
     rw [e1, List.map_cons, List.append_assoc]
     rfl
 have key := fold (jjw (46 : UInt8) s) [] (fun x hx => jqX 46 s x hx) (Nat.zero_le _)
 have key' : jzT jzE jQg (jjw (46 : UInt8) s) (((), ((), ((), ()))), (([] : List Int), (((), ()), ((false, ()), (([] : List Int), (((), ()), ())))))) =
    some (bif jj8 s then (.inl (((), ((), ((), ()))), (([] : List Int), (((), ()), ((false, ()), (jxX s, (((), ()), ()))))))) else (.inr (((), ((), ())), (([] : List Int), (((), ()), ((false, ()), ())))))) := by
  rw [key]
  unfold jj8 jxX jqT
  simp only [List.length_nil, Nat.zero_add, List.nil_append]
 simp only [f129, hble, cond_true, key', Option.bind_some]
 cases jj8 s <;> rfl
theorem jz0 (a) (hs : Bd a.1.1.length) : f109 a = some ((jj8 a.1.1, ()), ()) := by
 simp only [f109, jzo ((a.1.1, ()), ()) hs, Option.bind_some]
def jqU (n : Need) : Bool := jzO n.name && (n.kind == 0 && (n.version == []) || jj6 n.kind 1 3 && jj8 n.version)
abbrev BdN (n : Need) : Prop := Bd n.name.length ∧ Bd n.version.length
theorem v_NeedOk (a) (h1 : Bd a.1.1.1.length) (h2 : Bd a.1.1.2.2.1.length) : f218 a = some ((jqU ⟨a.1.1.1, a.1.1.2.1, a.1.1.2.2.1⟩, ()), ()) := by
 obtain ⟨⟨⟨n, k, v, u⟩, u'⟩, u''⟩ := a
 have h1 : n.length ≤ 2097152 := h1
 have h2 : v.length ≤ 2097152 := h2
 have e1 := v_l3Pack ((n, ()), ()) (show Sm n.length by unfold Sm; omega)
 have e2 := v_VersionOk ((v, ()), ()) h2
 simp only [f218, e1, e2, v_l1In, Option.bind_some, jqU]
 cases jzO n with
 | false => rfl
 | true =>
  cases hk : (k == 0) with
  | false =>
   simp only [cond_true, cond_false]
   cases jj6 k 1 3 <;> cases jj8 v <;> rfl
  | true =>
   have : jj6 k 1 3 = false := by
    have : k = 0 := by simpa using hk
    subst this; decide
   rw [this]
   cases (v == []) <;> rfl
theorem within_no {k : Int} (k0 : ¬ k = 0) (k1 : ¬ k = 1) (k2 : ¬ k = 2) (k3 : ¬ k = 3) : jj6 k 1 3 = false := by
 unfold jj6
 cases h : (decide (1 ≤ k) && decide (k ≤ 3)) with
 | false => rfl
 | true => simp only [Bool.and_eq_true, decide_eq_true_eq] at h; omega
theorem v_iNeedOk (a) (h1 : Bd a.1.1.1.length) (h2 : Bd a.1.1.2.2.1.length) : f111 a = some ((jqU ⟨a.1.1.1, a.1.1.2.1, a.1.1.2.2.1⟩, ()), ()) := by
 obtain ⟨⟨⟨n, k, v, u⟩, u'⟩, u''⟩ := a
 have h1 : n.length ≤ 2097152 := h1
 have h2 : v.length ≤ 2097152 := h2
 have e1 := v_packNameOk ((n, ()), ()) (show Sm n.length by unfold Sm; omega)
 have e2 := jz0 ((v, ()), ()) h2
 simp only [f111, e1, e2, Option.bind_some, jqU, jJU]
 cases jzO n with
 | false => rfl
 | true =>
  simp only [Bool.not_true, cond_false, Bool.true_and]
  by_cases k0 : k = 0
  ·subst k0
   cases (v == []) <;> rfl
  ·have hk0 : (k == 0) = false := by simpa using k0
   rw [hk0]
   by_cases k1 : k = 1
   ·subst k1; cases hv : jj8 v <;> simp [jj6, e2, hv]
   ·have hk1 : (k == 1) = false := by simpa using k1
    rw [hk1]
    by_cases k2 : k = 2
    ·subst k2; cases hv : jj8 v <;> simp [jj6, e2, hv]
    ·have hk2 : (k == 2) = false := by simpa using k2
     rw [hk2]
     by_cases k3 : k = 3
     ·subst k3; cases hv : jj8 v <;> simp [jj6, e2, hv]
     ·have hk3 : (k == 3) = false := by simpa using k3
      rw [hk3]
      rw [within_no k0 k1 k2 k3]
      rfl
noncomputable def c110v0 : Ctx := { tt := tt, fs := fun n => match n with | 111 => some S111 | _ => none }
theorem k110v0 (h : ∀ T, (tt T).ok Tryz.prog T) (h111 : jja Tryz.prog 111 S111) : CtxGood Tryz.prog c110v0 := ⟨⟨h⟩, fun g S hg => (by
 simp only [c110v0] at hg
 split at hg
 ·cases hg; exact h111
 ·cases hg), jjq, fun _ _ h => (by cases h), fun _ h => (by cases h)⟩
noncomputable def b110v0 : Code := jjh Tryz.f110
@[reducible] noncomputable def s110v0_26 : Shape := ⟨[(1, .lf (.fn 111 [])), (7, .lf (.d (.sl .need))), (8, .lf (.d (.int .i64))), (9, .lf (.d (.int .i64)))], [], 18⟩
@[reducible] noncomputable def jx4 : List OSh := [(.ret, ⟨[(4, .lf (.d (.bool)))], [], 18⟩), (.exit 0, ⟨[], [], 18⟩)]
noncomputable def jJv (y : s110v0_26.Y) : Option (Sum s110v0_26.Y (YS jx4)) :=
 bif (decide (y.1.2.2.2.1 < y.1.2.2.1)) then
(ix y.1.2.1 y.1.2.2.2.1).bind fun x1461 =>
(f111 (((x1461.name, (x1461.kind, (x1461.version, ()))), ()), ())).bind fun r1463 =>
 bif (!r1463.1.1) then
 some (.inr (.inl ((false, ()), ())))
else
 some (.inl (((), (y.1.2.1, (y.1.2.2.1, ((IntKind.i64.wrap (y.1.2.2.2.1 + (1 : Int))), ())))), ()))
else
 some (.inr (.inr ((), ())))
theorem r110v0_26 : ∀ y, jJv y = jjz (jjd c110v0 []) (jjl (jjc b110v0 1 26)) 26 s110v0_26 jx4 y := fun y => by kernel_rfl
noncomputable def jJl : s110v0_26.Y → Option (YS jx4) := jjD jJv
theorem q110v0_26 (H : CtxGood Tryz.prog c110v0) : jjn Tryz.prog (jjc b110v0 1 26) (jjb s110v0_26 jx4 jJl) :=
 jjt (fr := []) H (by kernel_rfl) (by kernel_rfl) jje (fun y => jji r110v0_26 y)
@[reducible] noncomputable def i110v0 : Shape := ⟨[(0, .lf (.d (.sl .need))), (1, .lf (.fn 111 []))], [], 18⟩
@[reducible] noncomputable def o110v0 : Shape := ⟨[(4, .lf (.d (.bool)))], [], 18⟩
noncomputable def f110v0 (a : i110v0.Y) : Option o110v0.Y :=
(jJl (((), (a.1.1, ((a.1.1.length : Int), ((0 : Int), ())))), ())).bind fun r1467 =>
(match r1467 with
| .inl r1468 =>
 some ((r1468.1.1, ()), ())
| .inr r1469 =>
 some ((true, ()), ()))
theorem e110v0 : ∀ a, f110v0 a = jjp (jjd c110v0 [(26, jjb s110v0_26 jx4 jJl)]) b110v0 i110v0 o110v0 a := fun a => by kernel_rfl
noncomputable def S110v0 : jjG := jjf tt 18 i110v0 o110v0 [.tmp 4] [] f110v0
theorem z110v0 (h : ∀ T, (tt T).ok Tryz.prog T) (h111 : jja Tryz.prog 111 S111) : jja Tryz.prog 110 S110v0 :=
 have H := k110v0 h h111
 jjj (fn := Tryz.f110) (fr := [(26, jjb s110v0_26 jx4 jJl)]) H (by kernel_rfl) (by kernel_rfl) (by kernel_rfl) (by kernel_rfl) (by kernel_rfl) ⟨q110v0_26 H, trivial⟩ (by kernel_rfl) (fun y => ⟨_, _, rfl, rfl, rfl⟩) e110v0
noncomputable def c113 : Ctx := { tt := tt, fs := fun n => match n with | _ => none }
theorem k113 (h : ∀ T, (tt T).ok Tryz.prog T) : CtxGood Tryz.prog c113 := ⟨⟨h⟩, fun g S hg => (by cases hg), jjq, fun _ _ h => (by cases h), fun _ h => (by cases h)⟩
noncomputable def b113 : Code := jjh Tryz.f113
@[reducible] noncomputable def i113 : Shape := ⟨[(0, .agg [.d (.str), .d (.int .i64), .d (.str)])], [], 5⟩
@[reducible] noncomputable def o113 : Shape := ⟨[(2, .lf (.d (.str)))], [], 5⟩
noncomputable def f113 (a : i113.Y) : Option o113.Y :=
 some ((a.1.1.1, ()), ())
theorem e113 : ∀ a, f113 a = jjp (jjd c113 []) b113 i113 o113 a := fun a => by kernel_rfl
noncomputable def S113 : jjG := jjf tt 5 i113 o113 [.tmp 2] [] f113
theorem z113 (h : ∀ T, (tt T).ok Tryz.prog T) : jja Tryz.prog 113 S113 :=
 have H := k113 h
 jjj (fn := Tryz.f113) (fr := []) H (by kernel_rfl) (by kernel_rfl) (by kernel_rfl) (by kernel_rfl) (by kernel_rfl) jje (by kernel_rfl) (fun y => ⟨_, _, rfl, rfl, rfl⟩) e113
noncomputable def c160 : Ctx := { tt := tt, fs := fun n => match n with | _ => none }
theorem k160 (h : ∀ T, (tt T).ok Tryz.prog T) : CtxGood Tryz.prog c160 := ⟨⟨h⟩, fun g S hg => (by cases hg), jjq, fun _ _ h => (by cases h), fun _ h => (by cases h)⟩
noncomputable def b160 : Code := jjh Tryz.f160
@[reducible] noncomputable def i160 : Shape := ⟨[(0, .lf (.d (.sl .str)))], [], 8⟩
@[reducible] noncomputable def o160 : Shape := ⟨[(2, .lf (.own 3000128))], [(3000128, .row .str, .slot 2 0)], 8⟩
noncomputable def f160 (a : i160.Y) : Option o160.Y :=
 jxj (t := .str) a.1.1 (some (((), ()), (([] : List Str), ()))) ((apd 16 ([] : List Str) a.1.1).bind fun x1472 =>
 some (((), ()), (x1472, ())))
theorem e160 : ∀ a, f160 a = jjp (jjd c160 []) b160 i160 o160 a := fun a => by kernel_rfl
noncomputable def S160 : jjG := jjf tt 8 i160 o160 [.tmp 2] [] f160
theorem z160 (h : ∀ T, (tt T).ok Tryz.prog T) : jja Tryz.prog 160 S160 :=
 have H := k160 h
 jjj (fn := Tryz.f160) (fr := []) H (by kernel_rfl) (by kernel_rfl) (by kernel_rfl) (by kernel_rfl) (by kernel_rfl) jje (by kernel_rfl) (fun y => ⟨_, _, rfl, rfl, rfl⟩) e160
noncomputable def c198 : Ctx := { tt := tt, fs := fun n => match n with | _ => none }
theorem k198 (h : ∀ T, (tt T).ok Tryz.prog T) : CtxGood Tryz.prog c198 := ⟨⟨h⟩, fun g S hg => (by cases hg), jjq, fun _ _ h => (by cases h), fun _ h => (by cases h)⟩
noncomputable def b198 : Code := jjh Tryz.f198
@[reducible] noncomputable def s198_26 : Shape := ⟨[(0, .lf (.d (.sl .str))), (1, .lf (.d (.str))), (7, .lf (.d (.int .i64))), (8, .lf (.d (.int .i64)))], [], 19⟩
@[reducible] noncomputable def jzp : List OSh := [(.ret, ⟨[(4, .lf (.d (.int .i64)))], [], 19⟩), (.exit 0, ⟨[], [], 19⟩)]
noncomputable def g198_26 (y : s198_26.Y) : Option (Sum s198_26.Y (YS jzp)) :=
 bif (decide (y.1.2.2.2.1 < y.1.2.2.1)) then
(ix y.1.1 y.1.2.2.2.1).bind fun x1483 =>
 bif (y.1.2.1 == x1483) then
 some (.inr (.inl ((y.1.2.2.2.1, ()), ())))
else
 some (.inl ((y.1.1, (y.1.2.1, (y.1.2.2.1, ((IntKind.i64.wrap (y.1.2.2.2.1 + (1 : Int))), ())))), ()))
else
 some (.inr (.inr ((), ())))
theorem r198_26 : ∀ y, g198_26 y = jjz (jjd c198 []) (jjl (jjc b198 1 26)) 26 s198_26 jzp y := fun y => by kernel_rfl
noncomputable def l198_26 : s198_26.Y → Option (YS jzp) := jjD g198_26
theorem q198_26 (H : CtxGood Tryz.prog c198) : jjn Tryz.prog (jjc b198 1 26) (jjb s198_26 jzp l198_26) :=
 jjt (fr := []) H (by kernel_rfl) (by kernel_rfl) jje (fun y => jji r198_26 y)
@[reducible] noncomputable def i198 : Shape := ⟨[(0, .lf (.d (.sl .str))), (1, .lf (.d (.str)))], [], 19⟩
@[reducible] noncomputable def o198 : Shape := ⟨[(4, .lf (.d (.int .i64)))], [], 19⟩
noncomputable def f198 (a : i198.Y) : Option o198.Y :=
(l198_26 ((a.1.1, (a.1.2.1, ((a.1.1.length : Int), ((0 : Int), ())))), ())).bind fun r1487 =>
(match r1487 with
| .inl r1488 =>
 some ((r1488.1.1, ()), ())
| .inr r1489 =>
 some ((((-1) : Int), ()), ()))
theorem e198 : ∀ a, f198 a = jjp (jjd c198 [(26, jjb s198_26 jzp l198_26)]) b198 i198 o198 a := fun a => by kernel_rfl
noncomputable def S198 : jjG := jjf tt 19 i198 o198 [.tmp 4] [] f198
theorem z198 (h : ∀ T, (tt T).ok Tryz.prog T) : jja Tryz.prog 198 S198 :=
 have H := k198 h
 jjj (fn := Tryz.f198) (fr := [(26, jjb s198_26 jzp l198_26)]) H (by kernel_rfl) (by kernel_rfl) (by kernel_rfl) (by kernel_rfl) (by kernel_rfl) ⟨q198_26 H, trivial⟩ (by kernel_rfl) (fun y => ⟨_, _, rfl, rfl, rfl⟩) e198
noncomputable def c161 : Ctx := { tt := tt, fs := fun n => match n with | 198 => some S198 | _ => none }
theorem k161 (h : ∀ T, (tt T).ok Tryz.prog T) (h198 : jja Tryz.prog 198 S198) : CtxGood Tryz.prog c161 := ⟨⟨h⟩, fun g S hg => (by
 simp only [c161] at hg
 split at hg
 ·cases hg; exact h198
 ·cases hg), jjq, fun _ _ h => (by cases h), fun _ h => (by cases h)⟩
noncomputable def b161 : Code := jjh Tryz.f161
@[reducible] noncomputable def i161 : Shape := ⟨[(0, .lf (.d (.sl .str))), (1, .lf (.d (.str)))], [], 9⟩
@[reducible] noncomputable def o161 : Shape := ⟨[(4, .lf (.d (.bool)))], [], 9⟩
noncomputable def f161 (a : i161.Y) : Option o161.Y :=
(f198 ((a.1.1, (a.1.2.1, ())), ())).bind fun r1491 =>
 some (((decide (r1491.1.1 ≥ (0 : Int))), ()), ())
theorem e161 : ∀ a, f161 a = jjp (jjd c161 []) b161 i161 o161 a := fun a => by kernel_rfl
noncomputable def S161 : jjG := jjf tt 9 i161 o161 [.tmp 4] [] f161
theorem z161 (h : ∀ T, (tt T).ok Tryz.prog T) (h198 : jja Tryz.prog 198 S198) : jja Tryz.prog 161 S161 :=
 have H := k161 h h198
 jjj (fn := Tryz.f161) (fr := []) H (by kernel_rfl) (by kernel_rfl) (by kernel_rfl) (by kernel_rfl) (by kernel_rfl) jje (by kernel_rfl) (fun y => ⟨_, _, rfl, rfl, rfl⟩) e161
noncomputable def c112v0 : Ctx := { tt := tt, fs := fun n => match n with | 113 => some S113 | 160 => some S160 | 161 => some S161 | _ => none }
theorem k112v0 (h : ∀ T, (tt T).ok Tryz.prog T) (h113 : jja Tryz.prog 113 S113) (h160 : jja Tryz.prog 160 S160) (h161 : jja Tryz.prog 161 S161) : CtxGood Tryz.prog c112v0 := ⟨⟨h⟩, fun g S hg => (by
 simp only [c112v0] at hg
 split at hg
 ·cases hg; exact h113
 ·cases hg; exact h160
 ·cases hg; exact h161
 ·cases hg), jjq, fun _ _ h => (by cases h), fun _ h => (by cases h)⟩
noncomputable def b112v0 : Code := jjh Tryz.f112
@[reducible] noncomputable def s112v0_58 : Shape := ⟨[(1, .lf (.fn 113 [])), (7, .lf (.own 3000448)), (12, .lf (.d (.sl .need))), (13, .lf (.d (.int .i64))), (14, .lf (.d (.int .i64)))], [(3000448, .row .str, .slot 7 0)], 30⟩
@[reducible] noncomputable def jqL : List OSh := [(.ret, ⟨[(6, .lf (.d (.bool)))], [], 30⟩), (.exit 0, ⟨[], [], 30⟩)]
noncomputable def jJu (y : s112v0_58.Y) : Option (Sum s112v0_58.Y (YS jqL)) :=
 bif (decide (y.1.2.2.2.2.1 < y.1.2.2.2.1)) then
(ix y.1.2.2.1 y.1.2.2.2.2.1).bind fun x1502 =>
(f113 (((x1502.name, (x1502.kind, (x1502.version, ()))), ()), ())).bind fun r1509 =>
(f161 ((y.2.1, (r1509.1.1, ())), ())).bind fun r1510 =>
 bif r1510.1.1 then
 some (.inr (.inl ((true, ()), ())))
else
(f113 (((x1502.name, (x1502.kind, (x1502.version, ()))), ()), ())).bind fun r1511 =>
(apd 16 y.2.1 ([r1511.1.1] : List Str)).bind fun x1512 =>
 some (.inl (((), ((), (y.1.2.2.1, (y.1.2.2.2.1, ((IntKind.i64.wrap (y.1.2.2.2.2.1 + (1 : Int))), ()))))), (x1512, ())))
else
 some (.inr (.inr ((), ())))
theorem r112v0_58 : ∀ y, jJu y = jjz (jjd c112v0 []) (jjl (jjc b112v0 1 58)) 58 s112v0_58 jqL y := fun y => by kernel_rfl
noncomputable def jJk : s112v0_58.Y → Option (YS jqL) := jjD jJu
theorem q112v0_58 (H : CtxGood Tryz.prog c112v0) : jjn Tryz.prog (jjc b112v0 1 58) (jjb s112v0_58 jqL jJk) :=
 jjt (fr := []) H (by kernel_rfl) (by kernel_rfl) jje (fun y => jji r112v0_58 y)
@[reducible] noncomputable def i112v0 : Shape := ⟨[(0, .lf (.d (.sl .need))), (1, .lf (.fn 113 [])), (2, .lf (.d (.sl .str)))], [], 30⟩
@[reducible] noncomputable def o112v0 : Shape := ⟨[(6, .lf (.d (.bool)))], [], 30⟩
noncomputable def f112v0 (a : i112v0.Y) : Option o112v0.Y :=
(f160 ((a.1.2.2.1, ()), ())).bind fun r1517 =>
(jJk (((), ((), (a.1.1, ((a.1.1.length : Int), ((0 : Int), ()))))), (r1517.2.1, ()))).bind fun r1518 =>
(match r1518 with
| .inl r1519 =>
 some ((r1519.1.1, ()), ())
| .inr r1520 =>
 some ((false, ()), ()))
theorem e112v0 : ∀ a, f112v0 a = jjp (jjd c112v0 [(58, jjb s112v0_58 jqL jJk)]) b112v0 i112v0 o112v0 a := fun a => by kernel_rfl
noncomputable def S112v0 : jjG := jjf tt 30 i112v0 o112v0 [.tmp 6] [] f112v0
theorem z112v0 (h : ∀ T, (tt T).ok Tryz.prog T) (h113 : jja Tryz.prog 113 S113) (h160 : jja Tryz.prog 160 S160) (h161 : jja Tryz.prog 161 S161) : jja Tryz.prog 112 S112v0 :=
 have H := k112v0 h h113 h160 h161
 jjj (fn := Tryz.f112) (fr := [(58, jjb s112v0_58 jqL jJk)]) H (by kernel_rfl) (by kernel_rfl) (by kernel_rfl) (by kernel_rfl) (by kernel_rfl) ⟨q112v0_58 H, trivial⟩ (by kernel_rfl) (fun y => ⟨_, _, rfl, rfl, rfl⟩) e112v0
noncomputable def c193 : Ctx := { tt := tt, fs := fun n => match n with | 218 => some S218 | _ => none }
theorem k193 (h : ∀ T, (tt T).ok Tryz.prog T) (h218 : jja Tryz.prog 218 S218) : CtxGood Tryz.prog c193 := ⟨⟨h⟩, fun g S hg => (by
 simp only [c193] at hg
 split at hg
 ·cases hg; exact h218
 ·cases hg), jjq, fun _ _ h => (by cases h), fun _ h => (by cases h)⟩
noncomputable def b193 : Code := jjh Tryz.f193
@[reducible] noncomputable def s193_26 : Shape := ⟨[(0, .lf (.d (.sl .need))), (3, .lf (.d (.int .i64)))], [], 19⟩
@[reducible] noncomputable def t193_26 : List OSh := [(.ret, ⟨[(2, .lf (.d (.bool)))], [], 19⟩), (.exit 0, ⟨[(0, .lf (.d (.sl .need)))], [], 19⟩)]
noncomputable def g193_26 (y : s193_26.Y) : Option (Sum s193_26.Y (YS t193_26)) :=
 bif (decide (y.1.2.1 < (y.1.1.length : Int))) then
(ix y.1.1 y.1.2.1).bind fun x858 =>
(f218 (((x858.name, (x858.kind, (x858.version, ()))), ()), ())).bind fun r859 =>
 bif (!r859.1.1) then
 some (.inr (.inl ((false, ()), ())))
else
 some (.inl ((y.1.1, ((IntKind.i64.wrap (y.1.2.1 + (1 : Int))), ())), ()))
else
 some (.inr (.inr ((y.1.1, ()), ())))
theorem r193_26 : ∀ y, g193_26 y = jjz (jjd c193 []) (jjl (jjc b193 1 26)) 26 s193_26 t193_26 y := fun y => by kernel_rfl
noncomputable def l193_26 : s193_26.Y → Option (YS t193_26) := jjD g193_26
theorem q193_26 (H : CtxGood Tryz.prog c193) : jjn Tryz.prog (jjc b193 1 26) (jjb s193_26 t193_26 l193_26) :=
 jjt (fr := []) H (by kernel_rfl) (by kernel_rfl) jje (fun y => jji r193_26 y)
@[reducible] noncomputable def i193 : Shape := ⟨[(0, .lf (.d (.sl .need)))], [], 19⟩
@[reducible] noncomputable def o193 : Shape := ⟨[(2, .lf (.d (.bool)))], [], 19⟩
noncomputable def f193 (a : i193.Y) : Option o193.Y :=
(l193_26 ((a.1.1, ((0 : Int), ())), ())).bind fun r869 =>
(match r869 with
| .inl r870 =>
 some ((r870.1.1, ()), ())
| .inr r871 =>
 some (((decide ((r871.1.1.length : Int) ≤ (6 : Int))), ()), ()))
theorem e193 : ∀ a, f193 a = jjp (jjd c193 [(26, jjb s193_26 t193_26 l193_26)]) b193 i193 o193 a := fun a => by kernel_rfl
noncomputable def S193 : jjG := jjf tt 19 i193 o193 [.tmp 2] [] f193
theorem z193 (h : ∀ T, (tt T).ok Tryz.prog T) (h218 : jja Tryz.prog 218 S218) : jja Tryz.prog 193 S193 :=
 have H := k193 h h218
 jjj (fn := Tryz.f193) (fr := [(26, jjb s193_26 t193_26 l193_26)]) H (by kernel_rfl) (by kernel_rfl) (by kernel_rfl) (by kernel_rfl) (by kernel_rfl) ⟨q193_26 H, trivial⟩ (by kernel_rfl) (fun y => ⟨_, _, rfl, rfl, rfl⟩) e193
noncomputable def c194 : Ctx := { tt := tt, fs := fun n => match n with | _ => none }
theorem k194 (h : ∀ T, (tt T).ok Tryz.prog T) : CtxGood Tryz.prog c194 := ⟨⟨h⟩, fun g S hg => (by cases hg), jjq, fun _ _ h => (by cases h), fun _ h => (by cases h)⟩
noncomputable def b194 : Code := jjh Tryz.f194
@[reducible] noncomputable def s194_1682 : Shape := ⟨[(0, .lf (.d (.sl .str))), (3, .lf (.d (.int .i64))), (4, .lf (.d (.int .i64)))], [], 25⟩
@[reducible] noncomputable def jx0 : List OSh := [(.ret, ⟨[(2, .lf (.d (.bool)))], [], 25⟩), (.exit 2, ⟨[(0, .lf (.d (.sl .str))), (3, .lf (.d (.int .i64)))], [], 25⟩)]
noncomputable def jJr (y : s194_1682.Y) : Option (Sum s194_1682.Y (YS jx0)) :=
 bif (decide (y.1.2.2.1 < y.1.2.1)) then
(ix y.1.1 y.1.2.2.1).bind fun x879 =>
(ix y.1.1 y.1.2.1).bind fun x880 =>
 bif (x879 == x880) then
 some (.inr (.inl ((true, ()), ())))
else
 some (.inl ((y.1.1, (y.1.2.1, ((IntKind.i64.wrap (y.1.2.2.1 + (1 : Int))), ()))), ()))
else
 some (.inr (.inr ((y.1.1, (y.1.2.1, ())), ())))
theorem r194_1682 : ∀ y, jJr y = jjz (jjd c194 []) (jjl (jjc (jjl (jjc b194 1 26)) 52 1682)) 1682 s194_1682 jx0 y := fun y => by kernel_rfl
noncomputable def jJi : s194_1682.Y → Option (YS jx0) := jjD jJr
theorem q194_1682 (H : CtxGood Tryz.prog c194) : jjn Tryz.prog (jjc (jjl (jjc b194 1 26)) 52 1682) (jjb s194_1682 jx0 jJi) :=
 jjt (fr := []) H (by kernel_rfl) (by kernel_rfl) jje (fun y => jji r194_1682 y)
@[reducible] noncomputable def s194_26 : Shape := ⟨[(0, .lf (.d (.sl .str))), (3, .lf (.d (.int .i64)))], [], 25⟩
@[reducible] noncomputable def t194_26 : List OSh := [(.ret, ⟨[(2, .lf (.d (.bool)))], [], 25⟩), (.exit 0, ⟨[], [], 25⟩)]
noncomputable def g194_26 (y : s194_26.Y) : Option (Sum s194_26.Y (YS t194_26)) :=
 bif (decide (y.1.2.1 < (y.1.1.length : Int))) then
(jJi ((y.1.1, (y.1.2.1, ((0 : Int), ()))), ())).bind fun r884 =>
(match r884 with
| .inl r885 =>
 some (.inr (.inl ((r885.1.1, ()), ())))
| .inr r886 =>
 some (.inl ((r886.1.1, ((IntKind.i64.wrap (r886.1.2.1 + (1 : Int))), ())), ())))
else
 some (.inr (.inr ((), ())))
theorem r194_26 : ∀ y, g194_26 y = jjz (jjd c194 [(1682, jjb s194_1682 jx0 jJi)]) (jjl (jjc b194 1 26)) 26 s194_26 t194_26 y := fun y => by kernel_rfl
noncomputable def l194_26 : s194_26.Y → Option (YS t194_26) := jjD g194_26
theorem q194_26 (H : CtxGood Tryz.prog c194) : jjn Tryz.prog (jjc b194 1 26) (jjb s194_26 t194_26 l194_26) :=
 jjt (fr := [(1682, jjb s194_1682 jx0 jJi)]) H (by kernel_rfl) (by kernel_rfl) ⟨q194_1682 H, trivial⟩ (fun y => jji r194_26 y)
@[reducible] noncomputable def i194 : Shape := ⟨[(0, .lf (.d (.sl .str)))], [], 25⟩
@[reducible] noncomputable def o194 : Shape := ⟨[(2, .lf (.d (.bool)))], [], 25⟩
noncomputable def f194 (a : i194.Y) : Option o194.Y :=
(l194_26 ((a.1.1, ((0 : Int), ())), ())).bind fun r890 =>
(match r890 with
| .inl r891 =>
 some ((r891.1.1, ()), ())
| .inr r892 =>
 some ((false, ()), ()))
theorem e194 : ∀ a, f194 a = jjp (jjd c194 [(26, jjb s194_26 t194_26 l194_26)]) b194 i194 o194 a := fun a => by kernel_rfl
noncomputable def S194 : jjG := jjf tt 25 i194 o194 [.tmp 2] [] f194
theorem z194 (h : ∀ T, (tt T).ok Tryz.prog T) : jja Tryz.prog 194 S194 :=
 have H := k194 h
 jjj (fn := Tryz.f194) (fr := [(26, jjb s194_26 t194_26 l194_26)]) H (by kernel_rfl) (by kernel_rfl) (by kernel_rfl) (by kernel_rfl) (by kernel_rfl) ⟨q194_26 H, trivial⟩ (by kernel_rfl) (fun y => ⟨_, _, rfl, rfl, rfl⟩) e194
noncomputable def c153 : Ctx := { tt := tt, fs := fun n => match n with | 193 => some S193 | 194 => some S194 | _ => none }
theorem k153 (h : ∀ T, (tt T).ok Tryz.prog T) (h193 : jja Tryz.prog 193 S193) (h194 : jja Tryz.prog 194 S194) : CtxGood Tryz.prog c153 := ⟨⟨h⟩, fun g S hg => (by
 simp only [c153] at hg
 split at hg
 ·cases hg; exact h193
 ·cases hg; exact h194
 ·cases hg), jjq, fun _ _ h => (by cases h), fun _ h => (by cases h)⟩
noncomputable def b153 : Code := jjh Tryz.f153
@[reducible] noncomputable def s153_58 : Shape := ⟨[(1, .lf (.d (.sl .need))), (5, .lf (.own 3000320)), (6, .lf (.d (.int .i64)))], [(3000320, .row .str, .slot 5 0)], 30⟩
@[reducible] noncomputable def jJ9 : List OSh := [(.exit 0, ⟨[(1, .lf (.d (.sl .need))), (5, .lf (.own 3000320))], [(3000320, .row .str, .slot 5 0)], 30⟩)]
noncomputable def g153_58 (y : s153_58.Y) : Option (Sum s153_58.Y (YS jJ9)) :=
 bif (decide (y.1.2.2.1 < (y.1.1.length : Int))) then
(ix y.1.1 y.1.2.2.1).bind fun x838 =>
(apd 16 y.2.1 ([x838.name] : List Str)).bind fun x839 =>
 some (.inl ((y.1.1, ((), ((IntKind.i64.wrap (y.1.2.2.1 + (1 : Int))), ()))), (x839, ())))
else
 some (.inr (((y.1.1, ((), ())), (y.2.1, ()))))
theorem r153_58 : ∀ y, g153_58 y = jjz (jjd c153 []) (jjl (jjc b153 1 58)) 58 s153_58 jJ9 y := fun y => by kernel_rfl
noncomputable def l153_58 : s153_58.Y → Option (YS jJ9) := jjD g153_58
theorem q153_58 (H : CtxGood Tryz.prog c153) : jjn Tryz.prog (jjc b153 1 58) (jjb s153_58 jJ9 l153_58) :=
 jjt (fr := []) H (by kernel_rfl) (by kernel_rfl) jje (fun y => jji r153_58 y)
@[reducible] noncomputable def i153 : Shape := ⟨[(0, .lf (.d (.str))), (1, .lf (.d (.sl .need)))], [], 30⟩
@[reducible] noncomputable def o153 : Shape := ⟨[(4, .lf (.d (.bool)))], [], 30⟩
noncomputable def f153 (a : i153.Y) : Option o153.Y :=
(l153_58 ((a.1.2.1, ((), ((0 : Int), ()))), (([a.1.1] : List Str), ()))).bind fun r895 =>
(f193 ((r895.1.1, ()), ())).bind fun r896 =>
 bif r896.1.1 then
(f194 ((r895.2.1, ()), ())).bind fun r897 =>
 some (((!r897.1.1), ()), ())
else
 some ((false, ()), ())
theorem e153 : ∀ a, f153 a = jjp (jjd c153 [(58, jjb s153_58 jJ9 l153_58)]) b153 i153 o153 a := fun a => by kernel_rfl
noncomputable def S153 : jjG := jjf tt 30 i153 o153 [.tmp 4] [] f153
theorem z153 (h : ∀ T, (tt T).ok Tryz.prog T) (h193 : jja Tryz.prog 193 S193) (h194 : jja Tryz.prog 194 S194) : jja Tryz.prog 153 S153 :=
 have H := k153 h h193 h194
 jjj (fn := Tryz.f153) (fr := [(58, jjb s153_58 jJ9 l153_58)]) H (by kernel_rfl) (by kernel_rfl) (by kernel_rfl) (by kernel_rfl) (by kernel_rfl) ⟨q153_58 H, trivial⟩ (by kernel_rfl) (fun y => ⟨_, _, rfl, rfl, rfl⟩) e153
abbrev BdNs (ns : List Need) : Prop := Bd ns.length ∧ ∀ n, n ∈ ns → BdN n
theorem leb6 (n : Nat) (k : Nat) : decide ((n : Int) ≤ (k : Int)) = decide (n ≤ k) := by by_cases h : n ≤ k <;> simp [h] <;> omega
theorem v_l4Needs (a) (hs : BdNs a.1.1) : f193 a = some ((a.1.1.all jqU && decide (a.1.1.length ≤ 6), ()), ()) := by
 obtain ⟨⟨ns, u⟩, u'⟩ := a
 obtain ⟨hl, hn⟩ := hs
 have hl : ns.length ≤ 2097152 := hl
 have key : l193_26 ((ns, ((0 : Int), ())), ()) = some (bif jqu (fun _ n => jqU n) 0 ns then .inr ((ns, ()), ()) else .inl ((false, ()), ())) := by
  refine jjN g193_26 ns (fun i => ((ns, ((i : Int), ())), ())) _ _ _ (fun i x hx => ?_) ?_
  ·have hi := jjy hx
   have hw : Sm i := by unfold Sm; omega
   have hb := hn x (List.mem_of_getElem? hx)
   simp only [g193_26, jjB hi, cond_true, jju, hx, Option.bind_some]
   rw [v_NeedOk _ hb.1 hb.2]
   simp only [Option.bind_some, jjk hw]
   cases jqU x <;> rfl
  ·simp only [g193_26, jjC, cond_false]
 rw [jjZ] at key
 simp only [f193, key, Option.bind_some]
 cases List.all ns jqU with
 | false => rfl
 | true => have := leb6 ns.length 6; simp only [cond_true, Bool.true_and]; rw [← this]; rfl
theorem v_allNeed (a) (hs : BdNs a.1.1) : f110v0 a = some ((a.1.1.all jqU, ()), ()) := by
 obtain ⟨⟨ns, u⟩, u'⟩ := a
 obtain ⟨hl, hn⟩ := hs
 have hl : ns.length ≤ 2097152 := hl
 have key : jJl (((), (ns, ((ns.length : Int), ((0 : Int), ())))), ()) = some (bif jqu (fun _ n => jqU n) 0 ns then .inr ((), ()) else .inl ((false, ()), ())) := by
  refine jjN jJv ns (fun i => (((), (ns, ((ns.length : Int), ((i : Int), ())))), ())) _ _ _ (fun i x hx => ?_) ?_
  ·have hi := jjy hx
   have hw : Sm i := by unfold Sm; omega
   have hb := hn x (List.mem_of_getElem? hx)
   simp only [jJv, jjB hi, cond_true, jju, hx, Option.bind_some]
   rw [v_iNeedOk _ hb.1 hb.2]
   simp only [Option.bind_some, jjk hw]
   cases jqU x <;> rfl
  ·simp only [jJv, jjC, cond_false]
 rw [jjZ] at key
 simp only [f110v0, key, Option.bind_some]
 cases List.all ns jqU <;> rfl
def dupA : List Str → List Str → Bool
 | _, [] => false
 | acc, x :: r => acc.contains x || dupA (acc ++ [x]) r
theorem dup_allI (xs : List Str) : ∀ (r : List Str) (k : Nat), r = xs.drop k → jqu (fun i x => !((xs.take i).contains x)) k r = !dupA (xs.take k) r := by
 intro r
 induction r with
 | nil => intro k _; rfl
 | cons x r ih =>
  intro k hr
  have hr' : r = xs.drop (k + 1) := by
   have := congrArg List.tail hr
   simpa using this
  have hx : xs[k]? = some x := by
   have := congrArg (fun l => l[0]?) hr
   simpa using this.symm
  have e1 : xs.take (k + 1) = xs.take k ++ [x] := by rw [List.take_add_one, hx]; rfl
  simp only [jqu, dupA, ih (k + 1) hr', e1, Bool.not_or]
theorem all_not (ys : List Str) (x : Str) : ys.all (fun y => !(y == x)) = !ys.contains x := by
 induction ys with
 | nil => rfl
 | cons y ys ih =>
  simp only [List.all_cons, ih, List.contains_cons, Bool.not_or]
  congr 2
  cases h : y == x with
  | true => rw [eq_of_beq h]; simp
  | false =>
   cases h2 : x == y with
   | true => rw [eq_of_beq h2] at h; simp at h
   | false => rfl
theorem v_l4Twice (a) (hs : Bd a.1.1.length) : f194 a = some ((dupA [] a.1.1, ()), ()) := by
 obtain ⟨⟨xs, u⟩, u'⟩ := a
 have hs : xs.length ≤ 2097152 := hs
 have inner : ∀ (i : Nat) (x : Str), xs[i]? = some x → jJi ((xs, ((i : Int), ((0 : Int), ()))), ()) = some (bif !((xs.take i).contains x) then .inr ((xs, ((i : Int), ())), ()) else .inl ((true, ()), ())) := by
  intro i x hx
  have hi := jjy hx
  have hl : (xs.take i).length = i := by rw [List.length_take]; omega
  have := jjN jJr (xs.take i) (fun k => ((xs, ((i : Int), ((k : Int), ()))), ())) (fun _ y => !(y == x)) (.inl ((true, ()), ())) (.inr ((xs, ((i : Int), ())), ())) (fun k y hy => ?_) ?_
  ·have := this
   rw [jjZ, all_not] at this
   exact this
  ·have hk := jjy hy
   rw [hl] at hk
   have hw : Sm k := by unfold Sm; omega
   have hy' : xs[k]? = some y := by
    rw [List.getElem?_take, if_pos hk] at hy
    exact hy
   simp only [jJr, jjB hk, cond_true, jju, hy', hx, Option.bind_some, jjk hw]
   cases (y == x) <;> rfl
  ·simp only [jJr, hl, jjC, cond_false]
 have key : l194_26 ((xs, ((0 : Int), ())), ()) = some (bif jqu (fun i x => !((xs.take i).contains x)) 0 xs then .inr ((), ()) else .inl ((true, ()), ())) := by
  refine jjN g194_26 xs (fun i => ((xs, ((i : Int), ())), ())) _ _ _ (fun i x hx => ?_) ?_
  ·have hi := jjy hx
   have hw : Sm i := by unfold Sm; omega
   simp only [g194_26, jjB hi, cond_true, inner i x hx, Option.bind_some]
   cases (xs.take i).contains x
   ·simp only [Bool.not_false, cond_true, jjk hw]
   ·rfl
  ·simp only [g194_26, jjC, cond_false]
 rw [dup_allI xs xs 0 rfl] at key
 simp only [f194, key, Option.bind_some, List.take_zero]
 cases dupA [] xs <;> rfl
def needsOk (name : Str) (ns : List Need) : Bool := ns.all jqU && decide (ns.length ≤ 6) && !dupA [] (name :: ns.map (·.name))
theorem v_l7Needs (a) (hs : BdNs a.1.2.1) (hn : Bd a.1.1.length) : f153 a = some ((needsOk a.1.1 a.1.2.1, ()), ()) := by
 obtain ⟨⟨name, ns, u⟩, u'⟩ := a
 have hl : ns.length ≤ 2097152 := hs.1
 have key : l153_58 ((ns, ((), ((0 : Int), ()))), (([name] : List Str), ())) = some (((ns, ((), ())), ((name :: ns.map (·.name)), ()))) := by
  have := loop_fold g153_58 ns (fun i (out : List Str) => ((ns, ((), ((i : Int), ()))), (out, ()))) (fun (n : Need) out => out ++ [n.name]) (fun out => (((ns, ((), ())), (out, ())) : YS jJ9)) (fun i out => out.length = i + 1) [name] rfl (fun i x out hx hI => ?_) (fun out _ => ?_)
  ·refine this.trans ?_
   have e : ∀ (r : List Need) (out : List Str), r.foldl (fun s x => s ++ [x.name]) out = out ++ r.map (·.name) := by
    intro r
    induction r with
    | nil => intro out; simp
    | cons n r ih => intro out; simp [ih]
   rw [e]; rfl
  ·have hi := jjy hx
   have hw : Sm i := by unfold Sm; omega
   refine ⟨?_, by simp [hI]⟩
   simp only [g153_58, jjB hi, cond_true, jju, hx, Option.bind_some]
   rw [jqd (by decide) (by unfold Sm; simp only [List.length_cons, List.length_nil]; omega)]
   simp only [Option.bind_some, jjk hw]
  ·simp only [g153_58, jjC, cond_false]
 simp only [f153, key, Option.bind_some]
 rw [v_l4Needs _ hs]
 simp only [Option.bind_some]
 unfold needsOk
 cases hq : (List.all ns jqU && decide (ns.length ≤ 6)) with
 | false => rfl
 | true =>
  simp only [Bool.and_eq_true, decide_eq_true_eq] at hq
  have tw := v_l4Twice ((name :: ns.map (·.name), ()), ()) (show (name :: ns.map (·.name)).length ≤ 2097152 by simp only [List.length_cons, List.length_map]; omega)
  simp only [cond_true, Bool.true_and, tw, Option.bind_some]
theorem v_Index (a) (hs : Bd a.1.1.length) : ∃ n : Int, f198 a = some ((n, ()), ()) ∧ decide (n ≥ 0) = a.1.1.contains a.1.2.1 := by
 obtain ⟨⟨xs, x, u⟩, u'⟩ := a
 have hs : xs.length ≤ 2097152 := hs
 have key : l198_26 ((xs, (x, ((xs.length : Int), ((0 : Int), ())))), ()) = _ := loop_list g198_26 xs (fun i (_ : Unit) => ((xs, (x, ((xs.length : Int), ((i : Int), ())))), ()))
  (fun i y _ => some (bif x == y then .inr ((.inl (((i : Int), ()), ())) : YS jzp) else .inl ())) (fun _ => .inr ((), ())) (fun i y s hy => ?_) (fun s => ?_) ()
 ·have fold : ∀ (r : List Str) (k : Nat), ∃ n : Int, (jqC (fun i y (_ : Unit) => some (bif x == y then .inr ((.inl (((i : Int), ()), ())) : YS jzp) else .inl ())) (fun _ => (.inr ((), ()) : YS jzp)) k r ()).bind (fun r833 =>
    (match r833 with
    | .inl r834 => some ((r834.1.1, ()), ())
    | .inr r835 => some ((((-1) : Int), ()), ()) : Option o198.Y)) = some ((n, ()), ()) ∧ decide (n ≥ 0) = r.contains x := by
   intro r
   induction r with
   | nil => intro k; exact ⟨-1, rfl, rfl⟩
   | cons y r ih =>
    intro k
    simp only [jqC, List.contains_cons]
    cases hxy : x == y with
    | true => exact ⟨k, rfl, by simp⟩
    | false =>
     obtain ⟨n, h1, h2⟩ := ih (k + 1)
     exact ⟨n, h1, by simpa using h2⟩
  obtain ⟨n, h1, h2⟩ := fold xs 0
  refine ⟨n, ?_, h2⟩
  simp only [f198]
  rw [key]
  exact h1
 ·have hi := jjy hy
  have hw : Sm i := by unfold Sm; omega
  simp only [g198_26, jjB hi, cond_true, jju, hy, Option.bind_some, jjk hw]
  cases x == y <;> rfl
 ·simp only [g198_26, jjC, cond_false]
theorem v_Contains (a) (hs : Bd a.1.1.length) : f161 a = some ((a.1.1.contains a.1.2.1, ()), ()) := by
 obtain ⟨n, h1, h2⟩ := v_Index ((a.1.1, (a.1.2.1, ())), ()) hs
 simp only [f161, h1, Option.bind_some, h2]
theorem v_CloneS (a) (hs : Bd a.1.1.length) : f160 a = some (((), ()), (a.1.1, ())) := by
 obtain ⟨⟨xs, u⟩, u'⟩ := a
 have hs : xs.length ≤ 2097152 := hs
 have h2 : (apd 16 ([] : List Str) xs).bind (fun x => some (((), ()), (x, ()))) = (some (((), ()), (xs, ())) : Option o160.Y) := by
  rw [jqd (by decide) (by unfold Sm; simp only [List.length_nil]; omega)]; rfl
 simp only [f160]
 rw [h2]
 unfold jxj
 split
 ·rfl
 ·rename_i h
  exact absurd (fun he : xs = [] => by subst he; rfl) h
theorem v_namesTwice (a) (hs : BdNs a.1.1) (hm : a.1.2.2.1.length ≤ 1) : f112v0 a = some ((dupA a.1.2.2.1 (a.1.1.map (·.name)), ()), ()) := by
 obtain ⟨⟨ns, u0, more, u⟩, u'⟩ := a
 have hl : ns.length ≤ 2097152 := hs.1
 have hm : more.length ≤ 1 := hm
 have hc := v_CloneS ((more, ()), ()) (show more.length ≤ 2097152 by omega)
 have key : (jJk (((), ((), (ns, ((ns.length : Int), ((0 : Int), ()))))), (more, ()))) = _ := jq3 jJu ns (fun i (out : List Str) => (((), ((), (ns, ((ns.length : Int), ((i : Int), ()))))), (out, ())))
  (fun i (n : Need) out => some (bif out.contains n.name then .inr ((.inl ((true, ()), ())) : YS jqL) else .inl (out ++ [n.name]))) (fun _ => .inr ((), ())) (fun i out => out.length ≤ i + 1) more (by omega) (fun i x out hx hI => ?_) (fun out _ => ?_)
 ·have fold : ∀ (r : List Need) (k : Nat) (out : List Str), (jqC (fun i (n : Need) out => some (bif out.contains n.name then .inr ((.inl ((true, ()), ())) : YS jqL) else .inl (out ++ [n.name]))) (fun _ => (.inr ((), ()) : YS jqL)) k r out) =
    some (bif dupA out (r.map (·.name)) then .inl ((true, ()), ()) else .inr ((), ())) := by
   intro r
   induction r with
   | nil => intro k out; rfl
   | cons n r ih =>
    intro k out
    simp only [jqC, List.map_cons, dupA]
    cases out.contains n.name with
    | true => rfl
    | false => simp only [cond_false, Bool.false_or]; exact ih _ _
  rw [fold] at key
  simp only [f112v0, hc, Option.bind_some, key]
  cases dupA more (ns.map (·.name)) <;> rfl
 ·have hi := jjy hx
  have hw : Sm i := by unfold Sm; omega
  refine ⟨?_, fun s' h' => ?_⟩
  ·simp only [jJu, jjB hi, cond_true, jju, hx, Option.bind_some, f113]
   rw [v_Contains _ (show Bd out.length by show out.length ≤ 2097152; omega)]
   simp only [Option.bind_some]
   cases hq : out.contains x.name with
   | true => rfl
   | false =>
    simp only [cond_false]
    rw [jqd (by decide) (by unfold Sm; simp only [List.length_cons, List.length_nil]; omega)]
    simp only [Option.bind_some, jjk hw, Option.map_some]
  ·simp only [Option.some.injEq] at h'
   cases hq : out.contains x.name with
   | true => rw [hq] at h'; cases h'
   | false =>
    rw [hq] at h'
    simp only [cond_false, Sum.inl.injEq] at h'
    subst h'
    simp only [List.length_append, List.length_cons, List.length_nil]; omega
 ·simp only [jJu, jjC, cond_false]
noncomputable def c222 : Ctx := { tt := tt, fs := fun n => match n with | _ => none }
theorem k222 (h : ∀ T, (tt T).ok Tryz.prog T) : CtxGood Tryz.prog c222 := ⟨⟨h⟩, fun g S hg => (by cases hg), jjq, fun _ _ h => (by cases h), fun _ h => (by cases h)⟩
noncomputable def b222 : Code := jjh Tryz.f222
@[reducible] noncomputable def i222 : Shape := ⟨[(0, .lf (.d (.int .u8)))], [], 29⟩
@[reducible] noncomputable def o222 : Shape := ⟨[(2, .lf (.d (.bool)))], [], 29⟩
noncomputable def f222 (a : i222.Y) : Option o222.Y :=
 bif (decide (a.1.1 ≥ (97 : Int))) then
 bif (!(decide (a.1.1 ≤ (122 : Int)))) then
 bif (decide (a.1.1 ≥ (48 : Int))) then
 bif (!(decide (a.1.1 ≤ (57 : Int)))) then
 bif (!(a.1.1 == (46 : Int))) then
 bif (!(a.1.1 == (95 : Int))) then
 some (((a.1.1 == (45 : Int)), ()), ())
else
 some ((true, ()), ())
else
 some ((true, ()), ())
else
 some ((true, ()), ())
else
 bif (!(a.1.1 == (46 : Int))) then
 bif (!(a.1.1 == (95 : Int))) then
 some (((a.1.1 == (45 : Int)), ()), ())
else
 some ((true, ()), ())
else
 some ((true, ()), ())
else
 some ((true, ()), ())
else
 bif (decide (a.1.1 ≥ (48 : Int))) then
 bif (!(decide (a.1.1 ≤ (57 : Int)))) then
 bif (!(a.1.1 == (46 : Int))) then
 bif (!(a.1.1 == (95 : Int))) then
 some (((a.1.1 == (45 : Int)), ()), ())
else
 some ((true, ()), ())
else
 some ((true, ()), ())
else
 some ((true, ()), ())
else
 bif (!(a.1.1 == (46 : Int))) then
 bif (!(a.1.1 == (95 : Int))) then
 some (((a.1.1 == (45 : Int)), ()), ())
else
 some ((true, ()), ())
else
 some ((true, ()), ())
theorem e222 : ∀ a, f222 a = jjp (jjd c222 []) b222 i222 o222 a := fun a => by kernel_rfl
noncomputable def S222 : jjG := jjf tt 29 i222 o222 [.tmp 2] [] f222
theorem z222 (h : ∀ T, (tt T).ok Tryz.prog T) : jja Tryz.prog 222 S222 :=
 have H := k222 h
 jjj (fn := Tryz.f222) (fr := []) H (by kernel_rfl) (by kernel_rfl) (by kernel_rfl) (by kernel_rfl) (by kernel_rfl) jje (by kernel_rfl) (fun y => ⟨_, _, rfl, rfl, rfl⟩) e222
noncomputable def c196 : Ctx := { tt := tt, fs := fun n => match n with | 222 => some S222 | _ => none }
theorem k196 (h : ∀ T, (tt T).ok Tryz.prog T) (h222 : jja Tryz.prog 222 S222) : CtxGood Tryz.prog c196 := ⟨⟨h⟩, fun g S hg => (by
 simp only [c196] at hg
 split at hg
 ·cases hg; exact h222
 ·cases hg), jjq, fun _ _ h => (by cases h), fun _ h => (by cases h)⟩
noncomputable def b196 : Code := jjh Tryz.f196
@[reducible] noncomputable def s196_26 : Shape := ⟨[(0, .lf (.d (.str))), (5, .lf (.d (.int .i64))), (6, .lf (.d (.int .i64)))], [], 17⟩
@[reducible] noncomputable def t196_26 : List OSh := [(.ret, ⟨[(2, .lf (.d (.bool)))], [], 17⟩), (.exit 0, ⟨[(0, .lf (.d (.str)))], [], 17⟩)]
noncomputable def g196_26 (y : s196_26.Y) : Option (Sum s196_26.Y (YS t196_26)) :=
 bif (decide (y.1.2.2.1 < y.1.2.1)) then
(ix y.1.1 y.1.2.2.1).bind fun x1530 =>
(f222 (((x1530.toNat : Int), ()), ())).bind fun r1531 =>
 bif (!r1531.1.1) then
 some (.inr (.inl ((false, ()), ())))
else
 some (.inl ((y.1.1, (y.1.2.1, ((IntKind.i64.wrap (y.1.2.2.1 + (1 : Int))), ()))), ()))
else
 some (.inr (.inr ((y.1.1, ()), ())))
theorem r196_26 : ∀ y, g196_26 y = jjz (jjd c196 []) (jjl (jjc b196 1 26)) 26 s196_26 t196_26 y := fun y => by kernel_rfl
noncomputable def l196_26 : s196_26.Y → Option (YS t196_26) := jjD g196_26
theorem q196_26 (H : CtxGood Tryz.prog c196) : jjn Tryz.prog (jjc b196 1 26) (jjb s196_26 t196_26 l196_26) :=
 jjt (fr := []) H (by kernel_rfl) (by kernel_rfl) jje (fun y => jji r196_26 y)
@[reducible] noncomputable def i196 : Shape := ⟨[(0, .lf (.d (.str)))], [], 17⟩
@[reducible] noncomputable def o196 : Shape := ⟨[(2, .lf (.d (.bool)))], [], 17⟩
noncomputable def f196 (a : i196.Y) : Option o196.Y :=
(l196_26 ((a.1.1, ((a.1.1.length : Int), ((0 : Int), ()))), ())).bind fun r1541 =>
(match r1541 with
| .inl r1542 =>
 some ((r1542.1.1, ()), ())
| .inr r1543 =>
 some (((!(r1543.1.1 == ([] : Str))), ()), ()))
theorem e196 : ∀ a, f196 a = jjp (jjd c196 [(26, jjb s196_26 t196_26 l196_26)]) b196 i196 o196 a := fun a => by kernel_rfl
noncomputable def S196 : jjG := jjf tt 17 i196 o196 [.tmp 2] [] f196
theorem z196 (h : ∀ T, (tt T).ok Tryz.prog T) (h222 : jja Tryz.prog 222 S222) : jja Tryz.prog 196 S196 :=
 have H := k196 h h222
 jjj (fn := Tryz.f196) (fr := [(26, jjb s196_26 t196_26 l196_26)]) H (by kernel_rfl) (by kernel_rfl) (by kernel_rfl) (by kernel_rfl) (by kernel_rfl) ⟨q196_26 H, trivial⟩ (by kernel_rfl) (fun y => ⟨_, _, rfl, rfl, rfl⟩) e196
noncomputable def c156 : Ctx := { tt := tt, fs := fun n => match n with | 196 => some S196 | _ => none }
theorem k156 (h : ∀ T, (tt T).ok Tryz.prog T) (h196 : jja Tryz.prog 196 S196) : CtxGood Tryz.prog c156 := ⟨⟨h⟩, fun g S hg => (by
 simp only [c156] at hg
 split at hg
 ·cases hg; exact h196
 ·cases hg), jjq, fun _ _ h => (by cases h), fun _ h => (by cases h)⟩
noncomputable def b156 : Code := jjh Tryz.f156
@[reducible] noncomputable def i156 : Shape := ⟨[(0, .lf (.d (.str)))], [], 18⟩
@[reducible] noncomputable def o156 : Shape := ⟨[(2, .lf (.d (.bool)))], [], 18⟩
noncomputable def f156 (a : i156.Y) : Option o156.Y :=
 bif (decide ((a.1.1.length : Int) ≤ (10 : Int))) then
 bif (!(a.1.1 == ([46] : Str))) then
 bif (!(a.1.1 == ([46, 46] : Str))) then
(f196 ((a.1.1, ()), ())).bind fun r1545 =>
 some ((r1545.1.1, ()), ())
else
 some ((false, ()), ())
else
 some ((false, ()), ())
else
 some ((false, ()), ())
theorem e156 : ∀ a, f156 a = jjp (jjd c156 []) b156 i156 o156 a := fun a => by kernel_rfl
noncomputable def S156 : jjG := jjf tt 18 i156 o156 [.tmp 2] [] f156
theorem z156 (h : ∀ T, (tt T).ok Tryz.prog T) (h196 : jja Tryz.prog 196 S196) : jja Tryz.prog 156 S156 :=
 have H := k156 h h196
 jjj (fn := Tryz.f156) (fr := []) H (by kernel_rfl) (by kernel_rfl) (by kernel_rfl) (by kernel_rfl) (by kernel_rfl) jje (by kernel_rfl) (fun y => ⟨_, _, rfl, rfl, rfl⟩) e156
noncomputable def c104 : Ctx := { tt := tt, fs := fun n => match n with | 156 => some S156 | _ => none, sp := fun n => match n with | 155 => some 219 | _ => none }
theorem k104 (h : ∀ T, (tt T).ok Tryz.prog T) (h156 : jja Tryz.prog 156 S156) (hY : jQo Tryz.prog 155 219) (hI : jzm Tryz.prog 219) : CtxGood Tryz.prog c104 := ⟨⟨h⟩, fun g S hg => (by
 simp only [c104] at hg
 split at hg
 ·cases hg; exact h156
 ·cases hg), jjq, fun g g2 hg => (by
 simp only [c104] at hg
 split at hg
 ·cases hg; exact hY
 ·cases hg), fun _ h => (by cases h)⟩
noncomputable def b104 : Code := jjh Tryz.f104
@[reducible] noncomputable def s104_938 : Shape := ⟨[(2, .lf (.ptr 2 0)), (3, .lf (.ptr 3 0)), (4, .lf (.d (.str)))], [(2, .box [.d (.bool)], .same), (3, .box [.d (.int .i64)], .same)], 17⟩
@[reducible] noncomputable def t104_938 : List OSh := [(.norm, ⟨[(2, .lf (.ptr 2 0)), (3, .lf (.ptr 3 0)), (16, .lf (.d (.bool)))], [(2, .box [.d (.bool)], .same), (3, .box [.d (.int .i64)], .same)], 17⟩)]
noncomputable def jJV (y : s104_938.Y) : Option (YS t104_938) :=
 bif (!(decide (y.2.2.1.1 > (5 : Int)))) then
(f156 ((y.1.2.2.1, ()), ())).bind fun r1548 =>
 some ((((), ((), ((!r1548.1.1), ()))), ((y.2.1.1, ()), ((y.2.2.1.1, ()), ()))))
else
 some ((((), ((), (true, ()))), ((y.2.1.1, ()), ((y.2.2.1.1, ()), ()))))
theorem r104_938 : ∀ y, jJV y = jjM (jjd c104 []) (jjc (jzM (jjc b104 1 58)) 117 938) 938 s104_938 t104_938 y := fun y => by kernel_rfl
theorem q104_938 (H : CtxGood Tryz.prog c104) (hI : jzm Tryz.prog 219) : jjn Tryz.prog (jjc (jzM (jjc b104 1 58)) 117 938) (jjb s104_938 t104_938 jJV) :=
 jjv (fr := []) H (by kernel_rfl) jje r104_938
@[reducible] noncomputable def s104_58 : Shape := ⟨[(2, .lf (.ptr 2 0)), (3, .lf (.ptr 3 0))], [(2, .box [.d (.bool)], .same), (3, .box [.d (.int .i64)], .same)], 17⟩
@[reducible] noncomputable def t104_58 : List OSh := [(.norm, ⟨[(2, .lf (.ptr 2 0))], [(2, .box [.d (.bool)], .same)], 17⟩), (.ret, ⟨[(2, .lf (.ptr 2 0))], [(2, .box [.d (.bool)], .same)], 17⟩)]
noncomputable def jzF (x : Str) (y : s104_58.Y) : Option (Sum s104_58.Y (YS t104_58)) :=
(jJV (((), ((), (x, ()))), ((y.2.1.1, ()), (((IntKind.i64.wrap (y.2.2.1.1 + (1 : Int))), ()), ())))).bind fun r1550 =>
 bif r1550.1.2.2.1 then
 some (.inr (.inr (((), ()), ((false, ()), ()))))
else
 some (.inl (((), ((), ())), ((r1550.2.1.1, ()), ((r1550.2.2.1.1, ()), ()))))
noncomputable def jQh (y : s104_58.Y) : Option (YS t104_58) := some (.inl (((), ()), ((y.2.1.1, ()), ())))
theorem r104_58 : ∀ x y, jzF x y = roundP (jjd c104 [(938, jjb s104_938 t104_938 jJV)]) (jzt (jjc b104 1 58)) (jzM (jjc b104 1 58)) 58 7 s104_58 t104_58 x y := fun x y => by kernel_rfl
theorem q104_58 (H : CtxGood Tryz.prog c104) (hI : jzm Tryz.prog 219) : jjn Tryz.prog (jjc b104 1 58) (jxk 219 6 s104_58 t104_58 jzF jQh) :=
 range_at (fr := [(938, jjb s104_938 t104_938 jJV)]) (prm := 7) H hI (by kernel_rfl) (by kernel_rfl) (by kernel_rfl) ⟨q104_938 H hI, trivial⟩ r104_58 (fun y => by kernel_rfl) (by kernel_rfl) (by kernel_rfl) (by kernel_rfl) (by kernel_rfl) (by kernel_rfl)
@[reducible] noncomputable def i104 : Shape := ⟨[(0, .lf (.d (.str)))], [], 17⟩
@[reducible] noncomputable def o104 : Shape := ⟨[(2, .lf (.ptr 2 0))], [(2, .box [.d (.bool)], .same)], 17⟩
noncomputable def f104 (a : i104.Y) : Option o104.Y :=
(bif Nat.ble a.1.1.length jzj then jzT jzF jQh (jjw (47 : UInt8) a.1.1) (((), ((), ())), ((false, ()), (((0 : Int), ()), ()))) else none).bind fun r1554 =>
(match r1554 with
| .inl r1555 =>
 some (((), ()), ((true, ()), ()))
| .inr r1556 =>
 some (((), ()), ((r1556.2.1.1, ()), ())))
theorem e104 : ∀ a, f104 a = jjp (jjd c104 [(58, jxk 219 6 s104_58 t104_58 jzF jQh)]) b104 i104 o104 a := fun a => by kernel_rfl
noncomputable def S104 : jjG := jjf tt 17 i104 o104 [.cell 2 4] [] f104
theorem z104 (h : ∀ T, (tt T).ok Tryz.prog T) (h156 : jja Tryz.prog 156 S156) (hY : jQo Tryz.prog 155 219) (hI : jzm Tryz.prog 219) : jja Tryz.prog 104 S104 :=
 have H := k104 h h156 hY hI
 jjj (fn := Tryz.f104) (fr := [(58, jxk 219 6 s104_58 t104_58 jzF jQh)]) H (by kernel_rfl) (by kernel_rfl) (by kernel_rfl) (by kernel_rfl) (by kernel_rfl) ⟨q104_58 H hI, trivial⟩ (by kernel_rfl) (fun y => ⟨_, _, rfl, rfl, rfl⟩) e104
noncomputable def c157 : Ctx := { tt := tt, fs := fun n => match n with | _ => none }
theorem k157 (h : ∀ T, (tt T).ok Tryz.prog T) : CtxGood Tryz.prog c157 := ⟨⟨h⟩, fun g S hg => (by cases hg), jjq, fun _ _ h => (by cases h), fun _ h => (by cases h)⟩
noncomputable def b157 : Code := jjh Tryz.f157
@[reducible] noncomputable def i157 : Shape := ⟨[(0, .lf (.d (.int .u8)))], [], 9⟩
@[reducible] noncomputable def o157 : Shape := ⟨[(2, .lf (.d (.bool)))], [], 9⟩
noncomputable def f157 (a : i157.Y) : Option o157.Y :=
 bif (decide (a.1.1 ≥ (32 : Int))) then
 some (((decide (a.1.1 ≤ (126 : Int))), ()), ())
else
 some ((false, ()), ())
theorem e157 : ∀ a, f157 a = jjp (jjd c157 []) b157 i157 o157 a := fun a => by kernel_rfl
noncomputable def S157 : jjG := jjf tt 9 i157 o157 [.tmp 2] [] f157
theorem z157 (h : ∀ T, (tt T).ok Tryz.prog T) : jja Tryz.prog 157 S157 :=
 have H := k157 h
 jjj (fn := Tryz.f157) (fr := []) H (by kernel_rfl) (by kernel_rfl) (by kernel_rfl) (by kernel_rfl) (by kernel_rfl) jje (by kernel_rfl) (fun y => ⟨_, _, rfl, rfl, rfl⟩) e157
noncomputable def c105 : Ctx := { tt := tt, fs := fun n => match n with | 157 => some S157 | _ => none }
theorem k105 (h : ∀ T, (tt T).ok Tryz.prog T) (h157 : jja Tryz.prog 157 S157) : CtxGood Tryz.prog c105 := ⟨⟨h⟩, fun g S hg => (by
 simp only [c105] at hg
 split at hg
 ·cases hg; exact h157
 ·cases hg), jjq, fun _ _ h => (by cases h), fun _ h => (by cases h)⟩
noncomputable def b105 : Code := jjh Tryz.f105
@[reducible] noncomputable def s105_7474 : Shape := ⟨[(0, .lf (.d (.str))), (3, .lf (.d (.int .i64))), (8, .lf (.d (.int .i64))), (9, .lf (.d (.int .i64)))], [], 24⟩
@[reducible] noncomputable def jJc : List OSh := [(.norm, ⟨[(0, .lf (.d (.str))), (8, .lf (.d (.int .i64))), (9, .lf (.d (.int .i64))), (22, .lf (.d (.bool)))], [], 24⟩)]
noncomputable def jzh (y : s105_7474.Y) : Option (YS jJc) :=
(ix y.1.1 y.1.2.1).bind fun x1568 =>
(f157 (((x1568.toNat : Int), ()), ())).bind fun r1569 =>
 bif (!r1569.1.1) then
(ix y.1.1 y.1.2.1).bind fun x1570 =>
 some (((y.1.1, (y.1.2.2.1, (y.1.2.2.2.1, (((x1570.toNat : Int) != (10 : Int)), ())))), ()))
else
 some (((y.1.1, (y.1.2.2.1, (y.1.2.2.2.1, (false, ())))), ()))
theorem r105_7474 : ∀ y, jzh y = jjM (jjd c105 []) (jjc (jjl (jjc b105 1 58)) 116 7474) 7474 s105_7474 jJc y := fun y => by kernel_rfl
theorem q105_7474 (H : CtxGood Tryz.prog c105) : jjn Tryz.prog (jjc (jjl (jjc b105 1 58)) 116 7474) (jjb s105_7474 jJc jzh) :=
 jjv (fr := []) H (by kernel_rfl) jje r105_7474
@[reducible] noncomputable def s105_58 : Shape := ⟨[(0, .lf (.d (.str))), (8, .lf (.d (.int .i64))), (9, .lf (.d (.int .i64)))], [], 24⟩
@[reducible] noncomputable def t105_58 : List OSh := [(.ret, ⟨[(2, .lf (.d (.bool)))], [], 24⟩), (.exit 0, ⟨[], [], 24⟩)]
noncomputable def g105_58 (y : s105_58.Y) : Option (Sum s105_58.Y (YS t105_58)) :=
 bif (decide (y.1.2.2.1 < y.1.2.1)) then
(jzh ((y.1.1, (y.1.2.2.1, (y.1.2.1, (y.1.2.2.1, ())))), ())).bind fun r1572 =>
 bif r1572.1.2.2.2.1 then
 some (.inr (.inl ((false, ()), ())))
else
 some (.inl ((r1572.1.1, (r1572.1.2.1, ((IntKind.i64.wrap (r1572.1.2.2.1 + (1 : Int))), ()))), ()))
else
 some (.inr (.inr ((), ())))
theorem r105_58 : ∀ y, g105_58 y = jjz (jjd c105 [(7474, jjb s105_7474 jJc jzh)]) (jjl (jjc b105 1 58)) 58 s105_58 t105_58 y := fun y => by kernel_rfl
noncomputable def l105_58 : s105_58.Y → Option (YS t105_58) := jjD g105_58
theorem q105_58 (H : CtxGood Tryz.prog c105) : jjn Tryz.prog (jjc b105 1 58) (jjb s105_58 t105_58 l105_58) :=
 jjt (fr := [(7474, jjb s105_7474 jJc jzh)]) H (by kernel_rfl) (by kernel_rfl) ⟨q105_7474 H, trivial⟩ (fun y => jji r105_58 y)
@[reducible] noncomputable def i105 : Shape := ⟨[(0, .lf (.d (.str)))], [], 24⟩
@[reducible] noncomputable def o105 : Shape := ⟨[(2, .lf (.d (.bool)))], [], 24⟩
noncomputable def f105 (a : i105.Y) : Option o105.Y :=
 bif (decide ((a.1.1.length : Int) > (80 : Int))) then
 some ((false, ()), ())
else
(l105_58 ((a.1.1, ((a.1.1.length : Int), ((0 : Int), ()))), ())).bind fun r1573 =>
(match r1573 with
| .inl r1574 =>
 some ((r1574.1.1, ()), ())
| .inr r1575 =>
 some ((true, ()), ()))
theorem e105 : ∀ a, f105 a = jjp (jjd c105 [(58, jjb s105_58 t105_58 l105_58)]) b105 i105 o105 a := fun a => by kernel_rfl
noncomputable def S105 : jjG := jjf tt 24 i105 o105 [.tmp 2] [] f105
theorem z105 (h : ∀ T, (tt T).ok Tryz.prog T) (h157 : jja Tryz.prog 157 S157) : jja Tryz.prog 105 S105 :=
 have H := k105 h h157
 jjj (fn := Tryz.f105) (fr := [(58, jjb s105_58 t105_58 l105_58)]) H (by kernel_rfl) (by kernel_rfl) (by kernel_rfl) (by kernel_rfl) (by kernel_rfl) ⟨q105_58 H, trivial⟩ (by kernel_rfl) (fun y => ⟨_, _, rfl, rfl, rfl⟩) e105
noncomputable def c236 : Ctx := { tt := tt, fs := fun n => match n with | _ => none }
theorem k236 (h : ∀ T, (tt T).ok Tryz.prog T) : CtxGood Tryz.prog c236 := ⟨⟨h⟩, fun g S hg => (by cases hg), jjq, fun _ _ h => (by cases h), fun _ h => (by cases h)⟩
noncomputable def b236 : Code := jjh Tryz.f236
@[reducible] noncomputable def i236 : Shape := ⟨[(0, .lf (.d (.int .u8)))], [], 29⟩
@[reducible] noncomputable def o236 : Shape := ⟨[(2, .lf (.d (.bool)))], [], 29⟩
noncomputable def f236 (a : i236.Y) : Option o236.Y :=
 bif (decide (a.1.1 ≥ (97 : Int))) then
 bif (!(decide (a.1.1 ≤ (122 : Int)))) then
 bif (decide (a.1.1 ≥ (48 : Int))) then
 bif (!(decide (a.1.1 ≤ (57 : Int)))) then
 bif (!(a.1.1 == (46 : Int))) then
 bif (!(a.1.1 == (95 : Int))) then
 some (((a.1.1 == (45 : Int)), ()), ())
else
 some ((true, ()), ())
else
 some ((true, ()), ())
else
 some ((true, ()), ())
else
 bif (!(a.1.1 == (46 : Int))) then
 bif (!(a.1.1 == (95 : Int))) then
 some (((a.1.1 == (45 : Int)), ()), ())
else
 some ((true, ()), ())
else
 some ((true, ()), ())
else
 some ((true, ()), ())
else
 bif (decide (a.1.1 ≥ (48 : Int))) then
 bif (!(decide (a.1.1 ≤ (57 : Int)))) then
 bif (!(a.1.1 == (46 : Int))) then
 bif (!(a.1.1 == (95 : Int))) then
 some (((a.1.1 == (45 : Int)), ()), ())
else
 some ((true, ()), ())
else
 some ((true, ()), ())
else
 some ((true, ()), ())
else
 bif (!(a.1.1 == (46 : Int))) then
 bif (!(a.1.1 == (95 : Int))) then
 some (((a.1.1 == (45 : Int)), ()), ())
else
 some ((true, ()), ())
else
 some ((true, ()), ())
theorem e236 : ∀ a, f236 a = jjp (jjd c236 []) b236 i236 o236 a := fun a => by kernel_rfl
noncomputable def S236 : jjG := jjf tt 29 i236 o236 [.tmp 2] [] f236
theorem z236 (h : ∀ T, (tt T).ok Tryz.prog T) : jja Tryz.prog 236 S236 :=
 have H := k236 h
 jjj (fn := Tryz.f236) (fr := []) H (by kernel_rfl) (by kernel_rfl) (by kernel_rfl) (by kernel_rfl) (by kernel_rfl) jje (by kernel_rfl) (fun y => ⟨_, _, rfl, rfl, rfl⟩) e236
noncomputable def c231 : Ctx := { tt := tt, fs := fun n => match n with | 192 => some S192 | 236 => some S236 | _ => none }
theorem k231 (h : ∀ T, (tt T).ok Tryz.prog T) (h192 : jja Tryz.prog 192 S192) (h236 : jja Tryz.prog 236 S236) : CtxGood Tryz.prog c231 := ⟨⟨h⟩, fun g S hg => (by
 simp only [c231] at hg
 split at hg
 ·cases hg; exact h192
 ·cases hg; exact h236
 ·cases hg), jjq, fun _ _ h => (by cases h), fun _ h => (by cases h)⟩
noncomputable def b231 : Code := jjh Tryz.f231
@[reducible] noncomputable def s231_26 : Shape := ⟨[(0, .lf (.d (.str))), (3, .lf (.d (.int .i64)))], [], 26⟩
@[reducible] noncomputable def t231_26 : List OSh := [(.ret, ⟨[(2, .lf (.d (.bool)))], [], 26⟩), (.exit 0, ⟨[(0, .lf (.d (.str)))], [], 26⟩)]
noncomputable def g231_26 (y : s231_26.Y) : Option (Sum s231_26.Y (YS t231_26)) :=
 bif (decide (y.1.2.1 < (y.1.1.length : Int))) then
(ix y.1.1 y.1.2.1).bind fun x101 =>
(f236 (((x101.toNat : Int), ()), ())).bind fun r102 =>
 bif (!r102.1.1) then
 some (.inr (.inl ((false, ()), ())))
else
 some (.inl ((y.1.1, ((IntKind.i64.wrap (y.1.2.1 + (1 : Int))), ())), ()))
else
 some (.inr (.inr ((y.1.1, ()), ())))
theorem r231_26 : ∀ y, g231_26 y = jjz (jjd c231 []) (jjl (jjc b231 1 26)) 26 s231_26 t231_26 y := fun y => by kernel_rfl
noncomputable def l231_26 : s231_26.Y → Option (YS t231_26) := jjD g231_26
theorem q231_26 (H : CtxGood Tryz.prog c231) : jjn Tryz.prog (jjc b231 1 26) (jjb s231_26 t231_26 l231_26) :=
 jjt (fr := []) H (by kernel_rfl) (by kernel_rfl) jje (fun y => jji r231_26 y)
@[reducible] noncomputable def i231 : Shape := ⟨[(0, .lf (.d (.str)))], [], 26⟩
@[reducible] noncomputable def o231 : Shape := ⟨[(2, .lf (.d (.bool)))], [], 26⟩
noncomputable def f231 (a : i231.Y) : Option o231.Y :=
(l231_26 ((a.1.1, ((0 : Int), ())), ())).bind fun r113 =>
(match r113 with
| .inl r114 =>
 some ((r114.1.1, ()), ())
| .inr r115 =>
(f192 (((r115.1.1.length : Int), ((1 : Int), ((10 : Int), ()))), ())).bind fun r116 =>
 bif r116.1.1 then
 bif (!(r115.1.1 == ([46] : Str))) then
 some (((!(r115.1.1 == ([46, 46] : Str))), ()), ())
else
 some ((false, ()), ())
else
 some ((false, ()), ()))
theorem e231 : ∀ a, f231 a = jjp (jjd c231 [(26, jjb s231_26 t231_26 l231_26)]) b231 i231 o231 a := fun a => by kernel_rfl
noncomputable def S231 : jjG := jjf tt 26 i231 o231 [.tmp 2] [] f231
theorem z231 (h : ∀ T, (tt T).ok Tryz.prog T) (h192 : jja Tryz.prog 192 S192) (h236 : jja Tryz.prog 236 S236) : jja Tryz.prog 231 S231 :=
 have H := k231 h h192 h236
 jjj (fn := Tryz.f231) (fr := [(26, jjb s231_26 t231_26 l231_26)]) H (by kernel_rfl) (by kernel_rfl) (by kernel_rfl) (by kernel_rfl) (by kernel_rfl) ⟨q231_26 H, trivial⟩ (by kernel_rfl) (fun y => ⟨_, _, rfl, rfl, rfl⟩) e231
noncomputable def c216 : Ctx := { tt := tt, fs := fun n => match n with | 208 => some S208 | 231 => some S231 | _ => none }
theorem k216 (h : ∀ T, (tt T).ok Tryz.prog T) (h208 : jja Tryz.prog 208 S208) (h231 : jja Tryz.prog 231 S231) : CtxGood Tryz.prog c216 := ⟨⟨h⟩, fun g S hg => (by
 simp only [c216] at hg
 split at hg
 ·cases hg; exact h208
 ·cases hg; exact h231
 ·cases hg), jjq, fun _ _ h => (by cases h), fun _ h => (by cases h)⟩
noncomputable def b216 : Code := jjh Tryz.f216
@[reducible] noncomputable def s216_58 : Shape := ⟨[(3, .lf (.own 3000192)), (4, .lf (.d (.int .i64)))], [(3000192, .row .str, .slot 3 0)], 25⟩
@[reducible] noncomputable def t216_58 : List OSh := [(.ret, ⟨[(2, .lf (.d (.bool)))], [], 25⟩), (.exit 0, ⟨[(3, .lf (.own 3000192))], [(3000192, .row .str, .slot 3 0)], 25⟩)]
noncomputable def g216_58 (y : s216_58.Y) : Option (Sum s216_58.Y (YS t216_58)) :=
 bif (decide (y.1.2.1 < (y.2.1.length : Int))) then
(inb y.2.1.length y.1.2.1).bind fun x124 =>
(y.2.1[x124]?).bind fun x125 =>
(f231 ((x125, ()), ())).bind fun r126 =>
 bif (!r126.1.1) then
 some (.inr (.inl ((false, ()), ())))
else
 some (.inl (((), ((IntKind.i64.wrap (y.1.2.1 + (1 : Int))), ())), (y.2.1, ())))
else
 some (.inr (.inr (((), ()), (y.2.1, ()))))
theorem r216_58 : ∀ y, g216_58 y = jjz (jjd c216 []) (jjl (jjc b216 1 58)) 58 s216_58 t216_58 y := fun y => by kernel_rfl
noncomputable def l216_58 : s216_58.Y → Option (YS t216_58) := jjD g216_58
theorem q216_58 (H : CtxGood Tryz.prog c216) : jjn Tryz.prog (jjc b216 1 58) (jjb s216_58 t216_58 l216_58) :=
 jjt (fr := []) H (by kernel_rfl) (by kernel_rfl) jje (fun y => jji r216_58 y)
@[reducible] noncomputable def i216 : Shape := ⟨[(0, .lf (.d (.str)))], [], 25⟩
@[reducible] noncomputable def o216 : Shape := ⟨[(2, .lf (.d (.bool)))], [], 25⟩
noncomputable def f216 (a : i216.Y) : Option o216.Y :=
(f208 ((a.1.1, ((47 : Int), ((IntKind.i64.wrap ((a.1.1.length : Int) + (1 : Int))), ()))), ())).bind fun r134 =>
(l216_58 (((), ((0 : Int), ())), (r134.2.1, ()))).bind fun r138 =>
(match r138 with
| .inl r139 =>
 some ((r139.1.1, ()), ())
| .inr r140 =>
 some (((decide ((r140.2.1.length : Int) ≤ (5 : Int))), ()), ()))
theorem e216 : ∀ a, f216 a = jjp (jjd c216 [(58, jjb s216_58 t216_58 l216_58)]) b216 i216 o216 a := fun a => by kernel_rfl
noncomputable def S216 : jjG := jjf tt 25 i216 o216 [.tmp 2] [] f216
theorem z216 (h : ∀ T, (tt T).ok Tryz.prog T) (h208 : jja Tryz.prog 208 S208) (h231 : jja Tryz.prog 231 S231) : jja Tryz.prog 216 S216 :=
 have H := k216 h h208 h231
 jjj (fn := Tryz.f216) (fr := [(58, jjb s216_58 t216_58 l216_58)]) H (by kernel_rfl) (by kernel_rfl) (by kernel_rfl) (by kernel_rfl) (by kernel_rfl) ⟨q216_58 H, trivial⟩ (by kernel_rfl) (fun y => ⟨_, _, rfl, rfl, rfl⟩) e216
noncomputable def c217 : Ctx := { tt := tt, fs := fun n => match n with | 192 => some S192 | _ => none }
theorem k217 (h : ∀ T, (tt T).ok Tryz.prog T) (h192 : jja Tryz.prog 192 S192) : CtxGood Tryz.prog c217 := ⟨⟨h⟩, fun g S hg => (by
 simp only [c217] at hg
 split at hg
 ·cases hg; exact h192
 ·cases hg), jjq, fun _ _ h => (by cases h), fun _ h => (by cases h)⟩
noncomputable def b217 : Code := jjh Tryz.f217
@[reducible] noncomputable def s217_840 : Shape := ⟨[(0, .lf (.d (.str))), (3, .lf (.d (.int .i64)))], [], 25⟩
@[reducible] noncomputable def t217_840 : List OSh := [(.norm, ⟨[(0, .lf (.d (.str))), (3, .lf (.d (.int .i64))), (21, .lf (.d (.bool)))], [], 25⟩)]
noncomputable def jJR (y : s217_840.Y) : Option (YS t217_840) :=
(ix y.1.1 y.1.2.1).bind fun x153 =>
 bif ((x153.toNat : Int) != (10 : Int)) then
(ix y.1.1 y.1.2.1).bind fun x154 =>
(f192 (((IntKind.i64.wrap (x154.toNat : Int)), ((32 : Int), ((126 : Int), ()))), ())).bind fun r155 =>
 some (((y.1.1, (y.1.2.1, ((!r155.1.1), ()))), ()))
else
 some (((y.1.1, (y.1.2.1, (false, ()))), ()))
theorem r217_840 : ∀ y, jJR y = jjM (jjd c217 []) (jjc (jjl (jjc b217 1 26)) 52 840) 840 s217_840 t217_840 y := fun y => by kernel_rfl
theorem q217_840 (H : CtxGood Tryz.prog c217) : jjn Tryz.prog (jjc (jjl (jjc b217 1 26)) 52 840) (jjb s217_840 t217_840 jJR) :=
 jjv (fr := []) H (by kernel_rfl) jje r217_840
@[reducible] noncomputable def s217_26 : Shape := ⟨[(0, .lf (.d (.str))), (3, .lf (.d (.int .i64)))], [], 25⟩
@[reducible] noncomputable def t217_26 : List OSh := [(.ret, ⟨[(2, .lf (.d (.bool)))], [], 25⟩), (.exit 0, ⟨[(0, .lf (.d (.str)))], [], 25⟩)]
noncomputable def g217_26 (y : s217_26.Y) : Option (Sum s217_26.Y (YS t217_26)) :=
 bif (decide (y.1.2.1 < (y.1.1.length : Int))) then
(jJR ((y.1.1, (y.1.2.1, ())), ())).bind fun r157 =>
 bif r157.1.2.2.1 then
 some (.inr (.inl ((false, ()), ())))
else
 some (.inl ((r157.1.1, ((IntKind.i64.wrap (r157.1.2.1 + (1 : Int))), ())), ()))
else
 some (.inr (.inr ((y.1.1, ()), ())))
theorem r217_26 : ∀ y, g217_26 y = jjz (jjd c217 [(840, jjb s217_840 t217_840 jJR)]) (jjl (jjc b217 1 26)) 26 s217_26 t217_26 y := fun y => by kernel_rfl
noncomputable def l217_26 : s217_26.Y → Option (YS t217_26) := jjD g217_26
theorem q217_26 (H : CtxGood Tryz.prog c217) : jjn Tryz.prog (jjc b217 1 26) (jjb s217_26 t217_26 l217_26) :=
 jjt (fr := [(840, jjb s217_840 t217_840 jJR)]) H (by kernel_rfl) (by kernel_rfl) ⟨q217_840 H, trivial⟩ (fun y => jji r217_26 y)
@[reducible] noncomputable def i217 : Shape := ⟨[(0, .lf (.d (.str)))], [], 25⟩
@[reducible] noncomputable def o217 : Shape := ⟨[(2, .lf (.d (.bool)))], [], 25⟩
noncomputable def f217 (a : i217.Y) : Option o217.Y :=
(l217_26 ((a.1.1, ((0 : Int), ())), ())).bind fun r167 =>
(match r167 with
| .inl r168 =>
 some ((r168.1.1, ()), ())
| .inr r169 =>
 some (((decide ((r169.1.1.length : Int) ≤ (80 : Int))), ()), ()))
theorem e217 : ∀ a, f217 a = jjp (jjd c217 [(26, jjb s217_26 t217_26 l217_26)]) b217 i217 o217 a := fun a => by kernel_rfl
noncomputable def S217 : jjG := jjf tt 25 i217 o217 [.tmp 2] [] f217
theorem z217 (h : ∀ T, (tt T).ok Tryz.prog T) (h192 : jja Tryz.prog 192 S192) : jja Tryz.prog 217 S217 :=
 have H := k217 h h192
 jjj (fn := Tryz.f217) (fr := [(26, jjb s217_26 t217_26 l217_26)]) H (by kernel_rfl) (by kernel_rfl) (by kernel_rfl) (by kernel_rfl) (by kernel_rfl) ⟨q217_26 H, trivial⟩ (by kernel_rfl) (fun y => ⟨_, _, rfl, rfl, rfl⟩) e217
noncomputable def c188 : Ctx := { tt := tt, fs := fun n => match n with | 192 => some S192 | 216 => some S216 | 217 => some S217 | _ => none }
theorem k188 (h : ∀ T, (tt T).ok Tryz.prog T) (h192 : jja Tryz.prog 192 S192) (h216 : jja Tryz.prog 216 S216) (h217 : jja Tryz.prog 217 S217) : CtxGood Tryz.prog c188 := ⟨⟨h⟩, fun g S hg => (by
 simp only [c188] at hg
 split at hg
 ·cases hg; exact h192
 ·cases hg; exact h216
 ·cases hg; exact h217
 ·cases hg), jjq, fun _ _ h => (by cases h), fun _ h => (by cases h)⟩
noncomputable def b188 : Code := jjh Tryz.f188
@[reducible] noncomputable def i188 : Shape := ⟨[(0, .agg [.d (.str), .d (.int .i64), .d (.int .i64), .d (.str)])], [], 42⟩
@[reducible] noncomputable def o188 : Shape := ⟨[(2, .lf (.d (.bool)))], [], 42⟩
noncomputable def f188 (a : i188.Y) : Option o188.Y :=
(f216 ((a.1.1.1, ()), ())).bind fun r178 =>
 bif (!r178.1.1) then
 some ((false, ()), ())
else
 bif (a.1.1.2.1 == (1 : Int)) then
(f192 ((a.1.1.2.2.1, ((0 : Int), ((7 : Int), ()))), ())).bind fun r182 =>
 bif r182.1.1 then
 some (((a.1.1.2.2.2.1 == ([] : Str)), ()), ())
else
 some ((false, ()), ())
else
 bif (a.1.1.2.1 == (2 : Int)) then
(f192 ((a.1.1.2.2.1, ((0 : Int), ((7 : Int), ()))), ())).bind fun r183 =>
 bif r183.1.1 then
(f217 ((a.1.1.2.2.2.1, ()), ())).bind fun r184 =>
 some ((r184.1.1, ()), ())
else
 some ((false, ()), ())
else
 bif (a.1.1.2.1 == (3 : Int)) then
 bif (a.1.1.2.2.1 == (0 : Int)) then
(f216 ((a.1.1.2.2.2.1, ()), ())).bind fun r185 =>
 some ((r185.1.1, ()), ())
else
 some ((false, ()), ())
else
 some ((false, ()), ())
theorem e188 : ∀ a, f188 a = jjp (jjd c188 []) b188 i188 o188 a := fun a => by kernel_rfl
noncomputable def S188 : jjG := jjf tt 42 i188 o188 [.tmp 2] [] f188
theorem z188 (h : ∀ T, (tt T).ok Tryz.prog T) (h192 : jja Tryz.prog 192 S192) (h216 : jja Tryz.prog 216 S216) (h217 : jja Tryz.prog 217 S217) : jja Tryz.prog 188 S188 :=
 have H := k188 h h192 h216 h217
 jjj (fn := Tryz.f188) (fr := []) H (by kernel_rfl) (by kernel_rfl) (by kernel_rfl) (by kernel_rfl) (by kernel_rfl) jje (by kernel_rfl) (fun y => ⟨_, _, rfl, rfl, rfl⟩) e188
noncomputable def c54 : Ctx := { tt := tt, fs := fun n => match n with | 104 => some S104 | 105 => some S105 | _ => none }
theorem k54 (h : ∀ T, (tt T).ok Tryz.prog T) (h104 : jja Tryz.prog 104 S104) (h105 : jja Tryz.prog 105 S105) : CtxGood Tryz.prog c54 := ⟨⟨h⟩, fun g S hg => (by
 simp only [c54] at hg
 split at hg
 ·cases hg; exact h104
 ·cases hg; exact h105
 ·cases hg), jjq, fun _ _ h => (by cases h), fun _ h => (by cases h)⟩
noncomputable def b54 : Code := jjh Tryz.f54
@[reducible] noncomputable def s54_12 : Shape := ⟨[(1, .lf (.ptr 1 0))], [(1, .box [.d (.str), .d (.int .i64), .d (.int .i64), .d (.str)], .same)], 39⟩
@[reducible] noncomputable def t54_12 : List OSh := [(.norm, ⟨[(1, .lf (.ptr 1 0)), (16, .lf (.d (.bool)))], [(1, .box [.d (.str), .d (.int .i64), .d (.int .i64), .d (.str)], .same)], 39⟩)]
noncomputable def g54_12 (y : s54_12.Y) : Option (YS t54_12) :=
(f104 ((y.2.1.1, ()), ())).bind fun r1559 =>
 bif (!(!r1559.2.1.1)) then
 bif (!(decide (y.2.1.2.2.1 < (0 : Int)))) then
 some ((((), ((decide (y.2.1.2.2.1 > (7 : Int))), ())), ((y.2.1.1, (y.2.1.2.1, (y.2.1.2.2.1, (y.2.1.2.2.2.1, ())))), ())))
else
 some ((((), (true, ())), ((y.2.1.1, (y.2.1.2.1, (y.2.1.2.2.1, (y.2.1.2.2.2.1, ())))), ())))
else
 some ((((), (true, ())), ((y.2.1.1, (y.2.1.2.1, (y.2.1.2.2.1, (y.2.1.2.2.2.1, ())))), ())))
theorem r54_12 : ∀ y, g54_12 y = jjM (jjd c54 []) (jjc b54 1 12) 12 s54_12 t54_12 y := fun y => by kernel_rfl
theorem q54_12 (H : CtxGood Tryz.prog c54) : jjn Tryz.prog (jjc b54 1 12) (jjb s54_12 t54_12 g54_12) :=
 jjv (fr := []) H (by kernel_rfl) jje r54_12
@[reducible] noncomputable def i54 : Shape := ⟨[(0, .agg [.d (.str), .d (.int .i64), .d (.int .i64), .d (.str)])], [], 39⟩
@[reducible] noncomputable def o54 : Shape := ⟨[(2, .lf (.d (.bool)))], [], 39⟩
noncomputable def f54 (a : i54.Y) : Option o54.Y :=
(g54_12 (((), ()), ((a.1.1.1, (a.1.1.2.1, (a.1.1.2.2.1, (a.1.1.2.2.2.1, ())))), ()))).bind fun r1579 =>
 bif r1579.1.2.1 then
 some ((false, ()), ())
else
 bif (r1579.2.1.2.1 == (1 : Int)) then
 some (((r1579.2.1.2.2.2.1 == ([] : Str)), ()), ())
else
 bif (r1579.2.1.2.1 == (2 : Int)) then
(f105 ((r1579.2.1.2.2.2.1, ()), ())).bind fun r1580 =>
 some ((r1580.1.1, ()), ())
else
 bif (r1579.2.1.2.1 == (3 : Int)) then
 bif (r1579.2.1.2.2.1 == (0 : Int)) then
(f104 ((r1579.2.1.2.2.2.1, ()), ())).bind fun r1581 =>
 some ((r1581.2.1.1, ()), ())
else
 some ((false, ()), ())
else
 some ((false, ()), ())
theorem e54 : ∀ a, f54 a = jjp (jjd c54 [(12, jjb s54_12 t54_12 g54_12)]) b54 i54 o54 a := fun a => by kernel_rfl
noncomputable def S54 : jjG := jjf tt 39 i54 o54 [.tmp 2] [] f54
theorem z54 (h : ∀ T, (tt T).ok Tryz.prog T) (h104 : jja Tryz.prog 104 S104) (h105 : jja Tryz.prog 105 S105) : jja Tryz.prog 54 S54 :=
 have H := k54 h h104 h105
 jjj (fn := Tryz.f54) (fr := [(12, jjb s54_12 t54_12 g54_12)]) H (by kernel_rfl) (by kernel_rfl) (by kernel_rfl) (by kernel_rfl) (by kernel_rfl) ⟨q54_12 H, trivial⟩ (by kernel_rfl) (fun y => ⟨_, _, rfl, rfl, rfl⟩) e54
def jx8 (n : Int) : Bool := (decide (97 ≤ n) && decide (n ≤ 122)) || (decide (48 ≤ n) && decide (n ≤ 57)) || n == 46 || n == 95 || n == 45
theorem v_l1Small (a) : f236 a = some ((jx8 a.1.1, ()), ()) := by
 obtain ⟨⟨n, u⟩, u'⟩ := a
 simp only [f236, jx8, ge_iff_le]
 generalize decide ((97 : Int) ≤ n) = b1
 generalize decide (n ≤ (122 : Int)) = b2
 generalize decide ((48 : Int) ≤ n) = b3
 generalize decide (n ≤ (57 : Int)) = b4
 generalize (n == (46 : Int)) = b5
 generalize (n == (95 : Int)) = b6
 generalize (n == (45 : Int)) = b7
 cases b1 <;> cases b2 <;> cases b3 <;> cases b4 <;> cases b5 <;> cases b6 <;> cases b7 <;> rfl
theorem v_nameByte (a) : f222 a = some ((jx8 a.1.1, ()), ()) := by
 obtain ⟨⟨n, u⟩, u'⟩ := a
 simp only [f222, jx8, ge_iff_le]
 generalize decide ((97 : Int) ≤ n) = b1
 generalize decide (n ≤ (122 : Int)) = b2
 generalize decide ((48 : Int) ≤ n) = b3
 generalize decide (n ≤ (57 : Int)) = b4
 generalize (n == (46 : Int)) = b5
 generalize (n == (95 : Int)) = b6
 generalize (n == (45 : Int)) = b7
 cases b1 <;> cases b2 <;> cases b3 <;> cases b4 <;> cases b5 <;> cases b6 <;> cases b7 <;> rfl
def nmOk (s : Str) : Bool := s.all (fun b => jx8 b.toNat) && jj6 s.length 1 10 && !(s == [46]) && !(s == [46, 46])
theorem v_l1Name (a) (hs : Bd a.1.1.length) : f231 a = some ((nmOk a.1.1, ()), ()) := by
 obtain ⟨⟨s, u⟩, u'⟩ := a
 have hs : s.length ≤ 2097152 := hs
 have key : l231_26 ((s, ((0 : Int), ())), ()) = some (bif jqu (fun _ b => jx8 b.toNat) 0 s then .inr ((s, ()), ()) else .inl ((false, ()), ())) := by
  refine jjN g231_26 s (fun i => ((s, ((i : Int), ())), ())) _ _ _ (fun i x hx => ?_) ?_
  ·have hi := jjy hx
   have hw : Sm i := by unfold Sm; omega
   simp only [g231_26, jjB hi, cond_true, jju, hx, Option.bind_some, v_l1Small, jjk hw]
   cases jx8 x.toNat <;> rfl
  ·simp only [g231_26, jjC, cond_false]
 rw [jjZ] at key
 simp only [f231, key, Option.bind_some, nmOk]
 cases List.all s (fun b => jx8 b.toNat) with
 | false => rfl
 | true =>
  simp only [cond_true, v_l1In, Option.bind_some, Bool.true_and]
  cases jj6 (s.length : Int) 1 10 <;> cases (s == [46]) <;> rfl
theorem v_nameOk (a) (hs : Bd a.1.1.length) : f156 a = some ((nmOk a.1.1, ()), ()) := by
 obtain ⟨⟨s, u⟩, u'⟩ := a
 have hs : s.length ≤ 2097152 := hs
 have key : l196_26 ((s, ((s.length : Int), ((0 : Int), ()))), ()) = some (bif jqu (fun _ b => jx8 b.toNat) 0 s then .inr ((s, ()), ()) else .inl ((false, ()), ())) := by
  refine jjN g196_26 s (fun i => ((s, ((s.length : Int), ((i : Int), ()))), ())) _ _ _ (fun i x hx => ?_) ?_
  ·have hi := jjy hx
   have hw : Sm i := by unfold Sm; omega
   simp only [g196_26, jjB hi, cond_true, jju, hx, Option.bind_some, v_nameByte, jjk hw]
   cases jx8 x.toNat <;> rfl
  ·simp only [g196_26, jjC, cond_false]
 rw [jjZ] at key
 have hnb : f196 ((s, ()), ()) = some ((List.all s (fun b => jx8 b.toNat) && !(s == ([] : Str)), ()), ()) := by
  simp only [f196, key, Option.bind_some]
  cases List.all s (fun b => jx8 b.toNat) <;> rfl
 have h1 : decide ((1 : Int) ≤ (s.length : Int)) = !(s == ([] : Str)) := by
  cases s with
  | nil => rfl
  | cons b r =>
   have : ((b :: r) == ([] : Str)) = false := rfl
   simp only [List.length_cons]
   rw [this]; simp only [Bool.not_false, decide_eq_true_eq]; omega
 simp only [f156, hnb, Option.bind_some, nmOk, jj6, h1]
 cases decide ((s.length : Int) ≤ 10) <;> cases (s == [46]) <;> cases (s == [46, 46]) <;> cases List.all s (fun b => jx8 b.toNat) <;> cases (s == ([] : Str)) <;> rfl
def jxg (s : Str) : Bool := (jjw 47 s).all nmOk && decide ((jjw 47 s).length ≤ 5)
theorem v_l1Path (a) (hs : Bd a.1.1.length) : f216 a = some ((jxg a.1.1, ()), ()) := by
 obtain ⟨⟨s, u⟩, u'⟩ := a
 have hs : s.length ≤ 2097152 := hs
 have hlen := jqY 47 s
 have hcut : f208 ((s, ((47 : Int), ((IntKind.i64.wrap ((s.length : Int) + (1 : Int))), ()))), ()) = some (((), ()), (jjw 47 s, ())) :=
  v_l1Cut 47 _ hs rfl (jjk (by unfold Sm; omega))
 have key : l216_58 (((), ((0 : Int), ())), (jjw 47 s, ())) = some (bif jqu (fun _ x => nmOk x) 0 (jjw 47 s) then .inr (((), ()), (jjw 47 s, ())) else .inl ((false, ()), ())) := by
  refine jjN g216_58 (jjw 47 s) (fun i => (((), ((i : Int), ())), (jjw 47 s, ()))) _ _ _ (fun i x hx => ?_) ?_
  ·have hi := jjy hx
   have hw : Sm i := by unfold Sm; omega
   have hxl : x.length ≤ s.length := jqX 47 s x (List.mem_of_getElem? hx)
   simp only [g216_58, jjB hi, cond_true, jzy hi, hx, Option.bind_some]
   rw [v_l1Name _ (show x.length ≤ 2097152 by omega)]
   simp only [Option.bind_some, jjk hw]
   cases nmOk x <;> rfl
  ·simp only [g216_58, jjC, cond_false]
 rw [jjZ] at key
 simp only [f216, hcut, Option.bind_some, key, jxg]
 cases List.all (jjw 47 s) nmOk with
 | false => rfl
 | true => have := leb6 (jjw 47 s).length 5; simp only [cond_true, Bool.true_and]; rw [← this]; rfl
theorem v_PathOk (a) (hs : Bd a.1.1.length) : f104 a = some (((), ()), ((jxg a.1.1, ()), ())) := by
 obtain ⟨⟨s, u⟩, u'⟩ := a
 have hs : s.length ≤ 2097152 := hs
 have hble : Nat.ble s.length jzj = true := Nat.ble_eq_true_of_le (by unfold jzj; omega)
 have fold : ∀ (r : List Str) (k : Nat), (∀ x, x ∈ r → x.length ≤ s.length) → k ≤ 5 →
   jzT jzF jQh r (((), ((), ())), ((false, ()), (((k : Int), ()), ()))) =
    some (bif r.all nmOk && decide (k + r.length ≤ 5) then (.inl (((), ()), ((false, ()), ()))) else (.inr (((), ()), ((false, ()), ())))) := by
  intro r
  induction r with
  | nil =>
   intro k _ hk
   have : decide (k + 0 ≤ 5) = true := by simpa using hk
   simp only [jzT, jQh, List.all_nil, List.length_nil, this, Bool.and_self, cond_true]
  | cons x r ih =>
   intro k hr hk
   have hx := hr x List.mem_cons_self
   have hnm := v_nameOk ((x, ()), ()) (show x.length ≤ 2097152 by omega)
   have hw := jjk (i := k) (by unfold Sm; omega)
   have hk5 : decide (((k + 1 : Nat) : Int) > 5) = !decide (k + 1 ≤ 5) := by by_cases h : k + 1 ≤ 5 <;> simp only [h, decide_true, decide_false, Bool.not_true, Bool.not_false, decide_eq_true_eq, decide_eq_false_iff_not] <;> omega
   have step : jzF x (((), ((), ())), ((false, ()), (((k : Int), ()), ()))) =
     some (bif nmOk x && decide (k + 1 ≤ 5) then .inl (((), ((), ())), ((false, ()), ((((k + 1 : Nat) : Int), ()), ()))) else .inr (.inr (((), ()), ((false, ()), ())))) := by
    simp only [jzF, jJV, hw, hk5, Bool.not_not, hnm, Option.bind_some]
    cases decide (k + 1 ≤ 5) with
    | false => cases nmOk x <;> rfl
    | true => cases nmOk x <;> rfl
   rw [jzT, step, List.all_cons]
   cases hn : nmOk x with
   | false => rfl
   | true =>
    simp only [Bool.true_and]
    cases hq : decide (k + 1 ≤ 5) with
    | false =>
     have : decide (k + (x :: r).length ≤ 5) = false := by simp only [decide_eq_false_iff_not, List.length_cons] at hq ⊢; omega
     rw [this]; simp
    | true =>
     simp only [cond_true]
     rw [ih (k + 1) (fun y hy => hr y (List.mem_cons_of_mem _ hy)) (by simpa using hq)]
     have e1 : k + 1 + r.length = k + (x :: r).length := by simp only [List.length_cons]; omega
     rw [e1]
 have key := fold (jjw (47 : UInt8) s) 0 (fun x hx => jqX 47 s x hx) (Nat.zero_le _)
 have key' : jzT jzF jQh (jjw (47 : UInt8) s) (((), ((), ())), ((false, ()), (((0 : Int), ()), ()))) = some (bif jxg s then (.inl (((), ()), ((false, ()), ()))) else (.inr (((), ()), ((false, ()), ())))) := by
  refine key.trans ?_
  unfold jxg
  rw [Nat.zero_add]
 simp only [f104, hble, cond_true, key', Option.bind_some]
 cases jxg s <;> rfl
def textOk (s : Str) : Bool := s.all (fun b => (b.toNat : Int) == 10 || jj6 b.toNat 32 126) && decide (s.length ≤ 80)
theorem wrap_byte (b : UInt8) : IntKind.i64.wrap (b.toNat : Int) = (b.toNat : Int) := by
 have := b.toNat_lt
 rw [jjH (by omega) (by omega)]
theorem v_l2Text (a) (hs : Bd a.1.1.length) : f217 a = some ((textOk a.1.1, ()), ()) := by
 obtain ⟨⟨s, u⟩, u'⟩ := a
 have hs : s.length ≤ 2097152 := hs
 have key : l217_26 ((s, ((0 : Int), ())), ()) = some (bif jqu (fun _ b => (b.toNat : Int) == 10 || jj6 b.toNat 32 126) 0 s then .inr ((s, ()), ()) else .inl ((false, ()), ())) := by
  refine jjN g217_26 s (fun i => ((s, ((i : Int), ())), ())) _ _ _ (fun i x hx => ?_) ?_
  ·have hi := jjy hx
   have hw : Sm i := by unfold Sm; omega
   have hne : ((x.toNat : Int) != 10) = !((x.toNat : Int) == 10) := rfl
   simp only [g217_26, jjB hi, cond_true, jJR, jju, hx, Option.bind_some, hne, v_l1In, wrap_byte]
   cases ((x.toNat : Int) == 10) <;> cases jj6 (x.toNat : Int) 32 126 <;> simp only [Bool.not_true, Bool.not_false, cond_true, cond_false, Option.bind_some, jjk hw, Bool.or_true, Bool.true_or, Bool.or_false]
  ·simp only [g217_26, jjC, cond_false]
 rw [jjZ] at key
 simp only [f217, key, Option.bind_some, textOk]
 cases List.all s (fun b => (b.toNat : Int) == 10 || jj6 b.toNat 32 126) with
 | false => rfl
 | true => have := leb6 s.length 80; simp only [cond_true, Bool.true_and]; rw [← this]; rfl
theorem v_plainByte (a) : f157 a = some ((jj6 a.1.1 32 126, ()), ()) := by
 simp only [f157, jj6, ge_iff_le]
 cases decide ((32 : Int) ≤ a.1.1) <;> rfl
theorem v_fileText (a) (hs : Bd a.1.1.length) : f105 a = some ((textOk a.1.1, ()), ()) := by
 obtain ⟨⟨s, u⟩, u'⟩ := a
 have hs : s.length ≤ 2097152 := hs
 have key : l105_58 ((s, ((s.length : Int), ((0 : Int), ()))), ()) = some (bif jqu (fun _ b => (b.toNat : Int) == 10 || jj6 b.toNat 32 126) 0 s then .inr ((), ()) else .inl ((false, ()), ())) := by
  refine jjN g105_58 s (fun i => ((s, ((s.length : Int), ((i : Int), ()))), ())) _ _ _ (fun i x hx => ?_) ?_
  ·have hi := jjy hx
   have hw : Sm i := by unfold Sm; omega
   have hne : ((x.toNat : Int) != 10) = !((x.toNat : Int) == 10) := rfl
   simp only [g105_58, jjB hi, cond_true, jzh, jju, hx, Option.bind_some, hne, v_plainByte]
   cases ((x.toNat : Int) == 10) <;> cases jj6 (x.toNat : Int) 32 126 <;> simp only [Bool.not_true, Bool.not_false, cond_true, cond_false, Option.bind_some, jjk hw, Bool.or_true, Bool.true_or, Bool.or_false]
  ·simp only [g105_58, jjC, cond_false]
 rw [jjZ] at key
 have h80 : decide ((s.length : Int) > 80) = !decide (s.length ≤ 80) := by by_cases h : s.length ≤ 80 <;> simp only [h, decide_true, decide_false, Bool.not_true, Bool.not_false, decide_eq_true_eq, decide_eq_false_iff_not] <;> omega
 simp only [f105, key, Option.bind_some, textOk, h80]
 cases decide (s.length ≤ 80) <;> cases List.all s (fun b => (b.toNat : Int) == 10 || jj6 b.toNat 32 126) <;> rfl
def entOk (e : Entry) : Bool := jxg e.path && (bif e.kind == 1 then jj6 e.mode 0 7 && e.text == [] else bif e.kind == 2 then jj6 e.mode 0 7 && textOk e.text else bif e.kind == 3 then e.mode == 0 && jxg e.text else false)
abbrev BdE (e : Entry) : Prop := Bd e.path.length ∧ Bd e.text.length
theorem v_l2Entry (a) (h1 : Bd a.1.1.1.length) (h2 : Bd a.1.1.2.2.2.1.length) : f188 a = some ((entOk ⟨a.1.1.1, a.1.1.2.1, a.1.1.2.2.1, a.1.1.2.2.2.1⟩, ()), ()) := by
 obtain ⟨⟨⟨p, k, m, t, u⟩, u'⟩, u''⟩ := a
 have e1 := v_l1Path ((p, ()), ()) h1
 have e2 := v_l1Path ((t, ()), ()) h2
 have e3 := v_l2Text ((t, ()), ()) h2
 simp only [f188, e1, e2, e3, v_l1In, Option.bind_some, entOk]
 cases jxg p with
 | false => rfl
 | true => cases (k == 1) <;> cases (k == 2) <;> cases (k == 3) <;> cases jj6 m 0 7 <;> cases (m == 0) <;> rfl
theorem v_entryOk (a) (h1 : Bd a.1.1.1.length) (h2 : Bd a.1.1.2.2.2.1.length) : f54 a = some ((entOk ⟨a.1.1.1, a.1.1.2.1, a.1.1.2.2.1, a.1.1.2.2.2.1⟩, ()), ()) := by
 obtain ⟨⟨⟨p, k, m, t, u⟩, u'⟩, u''⟩ := a
 have e1 := v_PathOk ((p, ()), ()) h1
 have e2 := v_PathOk ((t, ()), ()) h2
 have e3 := v_fileText ((t, ()), ()) h2
 have hm : jj6 m 0 7 = true ∨ (m == 0) = false := by
  cases h : (m == 0) with
  | false => exact .inr rfl
  | true => left; rw [show m = (0 : Int) from eq_of_beq h]; rfl
 simp only [f54, g54_12, e1, e2, e3, Option.bind_some, entOk, dlt, dgt, Bool.not_not]
 unfold jj6 at hm ⊢
 cases jxg p with
 | false => rfl
 | true =>
  cases h0 : decide ((0 : Int) ≤ m) <;> cases h7 : decide (m ≤ 7) <;> rw [h0, h7] at hm <;> cases h00 : (m == 0) <;> rw [h00] at hm <;>
   first | (simp at hm; done) | (simp only [Bool.not_true, Bool.not_false, cond_true, cond_false, Option.bind_some, h00, e2, e3, Bool.and_true, Bool.and_false, Bool.true_and, Bool.false_and]; cases (k == 1) <;> cases (k == 2) <;> cases (k == 3) <;> rfl)
noncomputable def c162 : Ctx := { tt := tt, fs := fun n => match n with | _ => none }
theorem k162 (h : ∀ T, (tt T).ok Tryz.prog T) : CtxGood Tryz.prog c162 := ⟨⟨h⟩, fun g S hg => (by cases hg), jjq, fun _ _ h => (by cases h), fun _ h => (by cases h)⟩
noncomputable def b162 : Code := jjh Tryz.f162
@[reducible] noncomputable def i162 : Shape := ⟨[(0, .lf (.d (.str)))], [], 6⟩
@[reducible] noncomputable def o162 : Shape := ⟨[(2, .lf (.d (.bool)))], [], 6⟩
noncomputable def f162 (a : i162.Y) : Option o162.Y :=
 some (((!(a.1.1 == a.1.1)), ()), ())
theorem e162 : ∀ a, f162 a = jjp (jjd c162 []) b162 i162 o162 a := fun a => by kernel_rfl
noncomputable def S162 : jjG := jjf tt 6 i162 o162 [.tmp 2] [] f162
theorem z162 (h : ∀ T, (tt T).ok Tryz.prog T) : jja Tryz.prog 162 S162 :=
 have H := k162 h
 jjj (fn := Tryz.f162) (fr := []) H (by kernel_rfl) (by kernel_rfl) (by kernel_rfl) (by kernel_rfl) (by kernel_rfl) jje (by kernel_rfl) (fun y => ⟨_, _, rfl, rfl, rfl⟩) e162
noncomputable def c116 : Ctx := { tt := tt, fs := fun n => match n with | 162 => some S162 | _ => none }
theorem k116 (h : ∀ T, (tt T).ok Tryz.prog T) (h162 : jja Tryz.prog 162 S162) : CtxGood Tryz.prog c116 := ⟨⟨h⟩, fun g S hg => (by
 simp only [c116] at hg
 split at hg
 ·cases hg; exact h162
 ·cases hg), jjq, fun _ _ h => (by cases h), fun _ h => (by cases h)⟩
noncomputable def b116 : Code := jjh Tryz.f116
@[reducible] noncomputable def i116 : Shape := ⟨[(0, .lf (.d (.str))), (1, .lf (.d (.str)))], [], 20⟩
@[reducible] noncomputable def o116 : Shape := ⟨[(4, .lf (.d (.int .i64)))], [], 20⟩
noncomputable def f116 (a : i116.Y) : Option o116.Y :=
(f162 ((a.1.1, ()), ())).bind fun r1619 =>
(f162 ((a.1.2.1, ()), ())).bind fun r1621 =>
 bif r1619.1.1 then
 bif r1621.1.1 then
 some (((0 : Int), ()), ())
else
 some ((((-1) : Int), ()), ())
else
 bif r1621.1.1 then
 some (((1 : Int), ()), ())
else
 bif (Op.bytesLess a.1.1 a.1.2.1) then
 some ((((-1) : Int), ()), ())
else
 bif (!(Op.bytesLess a.1.1 a.1.2.1 || a.1.1 == a.1.2.1)) then
 some (((1 : Int), ()), ())
else
 some (((0 : Int), ()), ())
theorem e116 : ∀ a, f116 a = jjp (jjd c116 []) b116 i116 o116 a := fun a => by kernel_rfl
noncomputable def S116 : jjG := jjf tt 20 i116 o116 [.tmp 4] [] f116
theorem z116 (h : ∀ T, (tt T).ok Tryz.prog T) (h162 : jja Tryz.prog 162 S162) : jja Tryz.prog 116 S116 :=
 have H := k116 h h162
 jjj (fn := Tryz.f116) (fr := []) H (by kernel_rfl) (by kernel_rfl) (by kernel_rfl) (by kernel_rfl) (by kernel_rfl) jje (by kernel_rfl) (fun y => ⟨_, _, rfl, rfl, rfl⟩) e116
noncomputable def c103 : Ctx := { tt := tt, fs := fun n => match n with | 116 => some S116 | _ => none }
theorem k103 (h : ∀ T, (tt T).ok Tryz.prog T) (h116 : jja Tryz.prog 116 S116) : CtxGood Tryz.prog c103 := ⟨⟨h⟩, fun g S hg => (by
 simp only [c103] at hg
 split at hg
 ·cases hg; exact h116
 ·cases hg), jjq, fun _ _ h => (by cases h), fun _ h => (by cases h)⟩
noncomputable def b103 : Code := jjh Tryz.f103
@[reducible] noncomputable def i103 : Shape := ⟨[(0, .agg [.d (.str), .d (.int .i64), .d (.int .i64), .d (.str)]), (1, .agg [.d (.str), .d (.int .i64), .d (.int .i64), .d (.str)])], [], 10⟩
@[reducible] noncomputable def o103 : Shape := ⟨[(4, .lf (.d (.int .i64)))], [], 10⟩
noncomputable def f103 (a : i103.Y) : Option o103.Y :=
(f116 ((a.1.1.1, (a.1.2.1.1, ())), ())).bind fun r1623 =>
 some ((r1623.1.1, ()), ())
theorem e103 : ∀ a, f103 a = jjp (jjd c103 []) b103 i103 o103 a := fun a => by kernel_rfl
noncomputable def S103 : jjG := jjf tt 10 i103 o103 [.tmp 4] [] f103
theorem z103 (h : ∀ T, (tt T).ok Tryz.prog T) (h116 : jja Tryz.prog 116 S116) : jja Tryz.prog 103 S103 :=
 have H := k103 h h116
 jjj (fn := Tryz.f103) (fr := []) H (by kernel_rfl) (by kernel_rfl) (by kernel_rfl) (by kernel_rfl) (by kernel_rfl) jje (by kernel_rfl) (fun y => ⟨_, _, rfl, rfl, rfl⟩) e103
noncomputable def c102v0 : Ctx := { tt := tt, fs := fun n => match n with | 103 => some S103 | _ => none }
theorem k102v0 (h : ∀ T, (tt T).ok Tryz.prog T) (h103 : jja Tryz.prog 103 S103) : CtxGood Tryz.prog c102v0 := ⟨⟨h⟩, fun g S hg => (by
 simp only [c102v0] at hg
 split at hg
 ·cases hg; exact h103
 ·cases hg), jjq, fun _ _ h => (by cases h), fun _ h => (by cases h)⟩
noncomputable def b102v0 : Code := jjh Tryz.f102
@[reducible] noncomputable def s102v0_60 : Shape := ⟨[(0, .lf (.d (.sl .entry))), (2, .lf (.fn 103 [])), (4, .lf (.ptr 4 0)), (6, .lf (.d (.int .i64))), (7, .lf (.d (.bool))), (8, .lf (.d (.int .i64))), (9, .lf (.d (.int .i64))), (10, .lf (.d (.int .i64)))], [(4, .box [.d (.str), .d (.int .i64), .d (.int .i64), .d (.str)], .same)], 49⟩
@[reducible] noncomputable def jx5 : List OSh := [(.exit 0, ⟨[(0, .lf (.d (.sl .entry))), (2, .lf (.fn 103 [])), (4, .lf (.ptr 4 0)), (6, .lf (.d (.int .i64))), (7, .lf (.d (.bool))), (8, .lf (.d (.int .i64))), (9, .lf (.d (.int .i64)))], [(4, .box [.d (.str), .d (.int .i64), .d (.int .i64), .d (.str)], .same)], 49⟩)]
noncomputable def jJw (y : s102v0_60.Y) : Option (Sum s102v0_60.Y (YS jx5)) :=
 bif (decide (y.1.2.2.2.2.2.2.1 < y.1.2.2.2.2.2.2.2.1)) then
(shrI .u64 (IntKind.u64.wrap (IntKind.i64.wrap (y.1.2.2.2.2.2.2.1 + y.1.2.2.2.2.2.2.2.1))) (1 : Int)).bind fun x1628 =>
(ix y.1.1 (IntKind.i64.wrap x1628)).bind fun x1631 =>
(f103 (((x1631.path, (x1631.kind, (x1631.mode, (x1631.text, ())))), ((y.2.1.1, (y.2.1.2.1, (y.2.1.2.2.1, (y.2.1.2.2.2.1, ())))), ())), ())).bind fun r1632 =>
 bif (decide (r1632.1.1 < (0 : Int))) then
 some (.inl ((y.1.1, ((), ((), (y.1.2.2.2.1, (y.1.2.2.2.2.1, (y.1.2.2.2.2.2.1, ((IntKind.i64.wrap ((IntKind.i64.wrap x1628) + (1 : Int))), (y.1.2.2.2.2.2.2.2.1, ())))))))), ((y.2.1.1, (y.2.1.2.1, (y.2.1.2.2.1, (y.2.1.2.2.2.1, ())))), ())))
else
 some (.inl ((y.1.1, ((), ((), (y.1.2.2.2.1, (y.1.2.2.2.2.1, (y.1.2.2.2.2.2.1, (y.1.2.2.2.2.2.2.1, ((IntKind.i64.wrap x1628), ())))))))), ((y.2.1.1, (y.2.1.2.1, (y.2.1.2.2.1, (y.2.1.2.2.2.1, ())))), ())))
else
 some (.inr (((y.1.1, ((), ((), (y.1.2.2.2.1, (y.1.2.2.2.2.1, (y.1.2.2.2.2.2.1, (y.1.2.2.2.2.2.2.1, ()))))))), ((y.2.1.1, (y.2.1.2.1, (y.2.1.2.2.1, (y.2.1.2.2.2.1, ())))), ()))))
theorem r102v0_60 : ∀ y, jJw y = jjz (jjd c102v0 []) (jjl (jjc b102v0 1 60)) 60 s102v0_60 jx5 y := fun y => by kernel_rfl
noncomputable def jzb : s102v0_60.Y → Option (YS jx5) := jjD jJw
theorem q102v0_60 (H : CtxGood Tryz.prog c102v0) : jjn Tryz.prog (jjc b102v0 1 60) (jjb s102v0_60 jx5 jzb) :=
 jjt (fr := []) H (by kernel_rfl) (by kernel_rfl) jje (fun y => jji r102v0_60 y)
@[reducible] noncomputable def i102v0 : Shape := ⟨[(0, .lf (.d (.sl .entry))), (1, .agg [.d (.str), .d (.int .i64), .d (.int .i64), .d (.str)]), (2, .lf (.fn 103 []))], [], 49⟩
@[reducible] noncomputable def o102v0 : Shape := ⟨[(6, .lf (.d (.int .i64))), (7, .lf (.d (.bool)))], [], 49⟩
noncomputable def f102v0 (a : i102v0.Y) : Option o102v0.Y :=
(jzb ((a.1.1, ((), ((), ((0 : Int), (false, ((a.1.1.length : Int), ((0 : Int), ((a.1.1.length : Int), ())))))))), ((a.1.2.1.1, (a.1.2.1.2.1, (a.1.2.1.2.2.1, (a.1.2.1.2.2.2.1, ())))), ()))).bind fun r1636 =>
 bif (decide (r1636.1.2.2.2.2.2.2.1 < r1636.1.2.2.2.2.2.1)) then
(ix r1636.1.1 r1636.1.2.2.2.2.2.2.1).bind fun x1637 =>
(f103 (((x1637.path, (x1637.kind, (x1637.mode, (x1637.text, ())))), ((r1636.2.1.1, (r1636.2.1.2.1, (r1636.2.1.2.2.1, (r1636.2.1.2.2.2.1, ())))), ())), ())).bind fun r1638 =>
 some ((r1636.1.2.2.2.2.2.2.1, ((r1638.1.1 == (0 : Int)), ())), ())
else
 some ((r1636.1.2.2.2.2.2.2.1, (false, ())), ())
theorem e102v0 : ∀ a, f102v0 a = jjp (jjd c102v0 [(60, jjb s102v0_60 jx5 jzb)]) b102v0 i102v0 o102v0 a := fun a => by kernel_rfl
noncomputable def S102v0 : jjG := jjf tt 49 i102v0 o102v0 [.tmp 6, .tmp 7] [] f102v0
theorem z102v0 (h : ∀ T, (tt T).ok Tryz.prog T) (h103 : jja Tryz.prog 103 S103) : jja Tryz.prog 102 S102v0 :=
 have H := k102v0 h h103
 jjj (fn := Tryz.f102) (fr := [(60, jjb s102v0_60 jx5 jzb)]) H (by kernel_rfl) (by kernel_rfl) (by kernel_rfl) (by kernel_rfl) (by kernel_rfl) ⟨q102v0_60 H, trivial⟩ (by kernel_rfl) (fun y => ⟨_, _, rfl, rfl, rfl⟩) e102v0
noncomputable def c197 : Ctx := { tt := tt, fs := fun n => match n with | _ => none }
theorem k197 (h : ∀ T, (tt T).ok Tryz.prog T) : CtxGood Tryz.prog c197 := ⟨⟨h⟩, fun g S hg => (by cases hg), jjq, fun _ _ h => (by cases h), fun _ h => (by cases h)⟩
noncomputable def b197 : Code := jjh Tryz.f197
@[reducible] noncomputable def s197_26 : Shape := ⟨[(0, .lf (.d (.str))), (1, .lf (.d (.int .u8))), (5, .lf (.d (.int .i64)))], [], 19⟩
@[reducible] noncomputable def t197_26 : List OSh := [(.ret, ⟨[(4, .lf (.d (.int .i64)))], [], 19⟩), (.exit 0, ⟨[], [], 19⟩)]
noncomputable def g197_26 (y : s197_26.Y) : Option (Sum s197_26.Y (YS t197_26)) :=
 bif (decide (y.1.2.2.1 ≥ (0 : Int))) then
(ix y.1.1 y.1.2.2.1).bind fun x1592 =>
 bif ((x1592.toNat : Int) == y.1.2.1) then
 some (.inr (.inl ((y.1.2.2.1, ()), ())))
else
 some (.inl ((y.1.1, (y.1.2.1, ((IntKind.i64.wrap (y.1.2.2.1 - (1 : Int))), ()))), ()))
else
 some (.inr (.inr ((), ())))
theorem r197_26 : ∀ y, g197_26 y = jjz (jjd c197 []) (jjl (jjc b197 1 26)) 26 s197_26 t197_26 y := fun y => by kernel_rfl
noncomputable def l197_26 : s197_26.Y → Option (YS t197_26) := jjD g197_26
theorem q197_26 (H : CtxGood Tryz.prog c197) : jjn Tryz.prog (jjc b197 1 26) (jjb s197_26 t197_26 l197_26) :=
 jjt (fr := []) H (by kernel_rfl) (by kernel_rfl) jje (fun y => jji r197_26 y)
@[reducible] noncomputable def i197 : Shape := ⟨[(0, .lf (.d (.str))), (1, .lf (.d (.int .u8)))], [], 19⟩
@[reducible] noncomputable def o197 : Shape := ⟨[(4, .lf (.d (.int .i64)))], [], 19⟩
noncomputable def f197 (a : i197.Y) : Option o197.Y :=
(l197_26 ((a.1.1, (a.1.2.1, ((IntKind.i64.wrap ((a.1.1.length : Int) - (1 : Int))), ()))), ())).bind fun r1596 =>
(match r1596 with
| .inl r1597 =>
 some ((r1597.1.1, ()), ())
| .inr r1598 =>
 some ((((-1) : Int), ()), ()))
theorem e197 : ∀ a, f197 a = jjp (jjd c197 [(26, jjb s197_26 t197_26 l197_26)]) b197 i197 o197 a := fun a => by kernel_rfl
noncomputable def S197 : jjG := jjf tt 19 i197 o197 [.tmp 4] [] f197
theorem z197 (h : ∀ T, (tt T).ok Tryz.prog T) : jja Tryz.prog 197 S197 :=
 have H := k197 h
 jjj (fn := Tryz.f197) (fr := [(26, jjb s197_26 t197_26 l197_26)]) H (by kernel_rfl) (by kernel_rfl) (by kernel_rfl) (by kernel_rfl) (by kernel_rfl) ⟨q197_26 H, trivial⟩ (by kernel_rfl) (fun y => ⟨_, _, rfl, rfl, rfl⟩) e197
noncomputable def c158 : Ctx := { tt := tt, fs := fun n => match n with | 197 => some S197 | _ => none }
theorem k158 (h : ∀ T, (tt T).ok Tryz.prog T) (h197 : jja Tryz.prog 197 S197) : CtxGood Tryz.prog c158 := ⟨⟨h⟩, fun g S hg => (by
 simp only [c158] at hg
 split at hg
 ·cases hg; exact h197
 ·cases hg), jjq, fun _ _ h => (by cases h), fun _ h => (by cases h)⟩
noncomputable def b158 : Code := jjh Tryz.f158
@[reducible] noncomputable def i158 : Shape := ⟨[(0, .lf (.d (.str))), (1, .lf (.d (.int .u8)))], [], 8⟩
@[reducible] noncomputable def o158 : Shape := ⟨[(4, .lf (.d (.int .i64)))], [], 8⟩
noncomputable def f158 (a : i158.Y) : Option o158.Y :=
(f197 ((a.1.1, (a.1.2.1, ())), ())).bind fun r1600 =>
 some ((r1600.1.1, ()), ())
theorem e158 : ∀ a, f158 a = jjp (jjd c158 []) b158 i158 o158 a := fun a => by kernel_rfl
noncomputable def S158 : jjG := jjf tt 8 i158 o158 [.tmp 4] [] f158
theorem z158 (h : ∀ T, (tt T).ok Tryz.prog T) (h197 : jja Tryz.prog 197 S197) : jja Tryz.prog 158 S158 :=
 have H := k158 h h197
 jjj (fn := Tryz.f158) (fr := []) H (by kernel_rfl) (by kernel_rfl) (by kernel_rfl) (by kernel_rfl) (by kernel_rfl) jje (by kernel_rfl) (fun y => ⟨_, _, rfl, rfl, rfl⟩) e158
noncomputable def c106 : Ctx := { tt := tt, fs := fun n => match n with | 104 => some S104 | 158 => some S158 | _ => none }
theorem k106 (h : ∀ T, (tt T).ok Tryz.prog T) (h104 : jja Tryz.prog 104 S104) (h158 : jja Tryz.prog 158 S158) : CtxGood Tryz.prog c106 := ⟨⟨h⟩, fun g S hg => (by
 simp only [c106] at hg
 split at hg
 ·cases hg; exact h104
 ·cases hg; exact h158
 ·cases hg), jjq, fun _ _ h => (by cases h), fun _ h => (by cases h)⟩
noncomputable def b106 : Code := jjh Tryz.f106
@[reducible] noncomputable def i106 : Shape := ⟨[(0, .lf (.d (.str)))], [], 11⟩
@[reducible] noncomputable def o106 : Shape := ⟨[(2, .lf (.d (.str)))], [], 11⟩
noncomputable def f106 (a : i106.Y) : Option o106.Y :=
(f104 ((a.1.1, ()), ())).bind fun r1606 =>
 bif (!r1606.2.1.1) then
 some ((([] : Str), ()), ())
else
(f158 ((a.1.1, ((47 : Int), ())), ())).bind fun r1607 =>
(jqM a.1.1 (0 : Int) (maxI r1607.1.1 (0 : Int))).bind fun x1608 =>
 some ((x1608, ()), ())
theorem e106 : ∀ a, f106 a = jjp (jjd c106 []) b106 i106 o106 a := fun a => by kernel_rfl
noncomputable def S106 : jjG := jjf tt 11 i106 o106 [.tmp 2] [] f106
theorem z106 (h : ∀ T, (tt T).ok Tryz.prog T) (h104 : jja Tryz.prog 104 S104) (h158 : jja Tryz.prog 158 S158) : jja Tryz.prog 106 S106 :=
 have H := k106 h h104 h158
 jjj (fn := Tryz.f106) (fr := []) H (by kernel_rfl) (by kernel_rfl) (by kernel_rfl) (by kernel_rfl) (by kernel_rfl) jje (by kernel_rfl) (fun y => ⟨_, _, rfl, rfl, rfl⟩) e106
noncomputable def c57 : Ctx := { tt := tt, fs := fun n => match n with | _ => none }
theorem k57 (h : ∀ T, (tt T).ok Tryz.prog T) : CtxGood Tryz.prog c57 := ⟨⟨h⟩, fun g S hg => (by cases hg), jjq, fun _ _ h => (by cases h), fun _ h => (by cases h)⟩
noncomputable def b57 : Code := jjh Tryz.f57
@[reducible] noncomputable def s57_28 : Shape := ⟨[(0, .lf (.d (.sl .entry))), (1, .lf (.d (.str))), (4, .lf (.d (.int .i64))), (5, .lf (.d (.bool))), (6, .lf (.d (.int .i64)))], [], 36⟩
@[reducible] noncomputable def t57_28 : List OSh := [(.exit 0, ⟨[(0, .lf (.d (.sl .entry))), (1, .lf (.d (.str))), (4, .lf (.d (.int .i64))), (5, .lf (.d (.bool))), (6, .lf (.d (.int .i64)))], [], 36⟩)]
noncomputable def g57_28 (y : s57_28.Y) : Option (Sum s57_28.Y (YS t57_28)) :=
 bif (decide (y.1.2.2.2.2.1 < (y.1.1.length : Int))) then
(ix y.1.1 y.1.2.2.2.2.1).bind fun x58 =>
 bif (Op.bytesLess x58.path y.1.2.1) then
 some (.inl ((y.1.1, (y.1.2.1, (y.1.2.2.1, (y.1.2.2.2.1, ((IntKind.i64.wrap (y.1.2.2.2.2.1 + (1 : Int))), ()))))), ()))
else
 some (.inr (((y.1.1, (y.1.2.1, (y.1.2.2.1, (y.1.2.2.2.1, (y.1.2.2.2.2.1, ()))))), ())))
else
 some (.inr (((y.1.1, (y.1.2.1, (y.1.2.2.1, (y.1.2.2.2.1, (y.1.2.2.2.2.1, ()))))), ())))
theorem r57_28 : ∀ y, g57_28 y = jjz (jjd c57 []) (jjl (jjc b57 1 28)) 28 s57_28 t57_28 y := fun y => by kernel_rfl
noncomputable def l57_28 : s57_28.Y → Option (YS t57_28) := jjD g57_28
theorem q57_28 (H : CtxGood Tryz.prog c57) : jjn Tryz.prog (jjc b57 1 28) (jjb s57_28 t57_28 l57_28) :=
 jjt (fr := []) H (by kernel_rfl) (by kernel_rfl) jje (fun y => jji r57_28 y)
@[reducible] noncomputable def i57 : Shape := ⟨[(0, .lf (.d (.sl .entry))), (1, .lf (.d (.str)))], [], 36⟩
@[reducible] noncomputable def o57 : Shape := ⟨[(4, .lf (.d (.int .i64))), (5, .lf (.d (.bool)))], [], 36⟩
noncomputable def f57 (a : i57.Y) : Option o57.Y :=
(l57_28 ((a.1.1, (a.1.2.1, ((0 : Int), (false, ((0 : Int), ()))))), ())).bind fun r61 =>
 bif (decide (r61.1.2.2.2.2.1 < (r61.1.1.length : Int))) then
(ix r61.1.1 r61.1.2.2.2.2.1).bind fun x62 =>
 some ((r61.1.2.2.2.2.1, ((x62.path == r61.1.2.1), ())), ())
else
 some ((r61.1.2.2.2.2.1, (false, ())), ())
theorem e57 : ∀ a, f57 a = jjp (jjd c57 [(28, jjb s57_28 t57_28 l57_28)]) b57 i57 o57 a := fun a => by kernel_rfl
noncomputable def S57 : jjG := jjf tt 36 i57 o57 [.tmp 4, .tmp 5] [] f57
theorem z57 (h : ∀ T, (tt T).ok Tryz.prog T) : jja Tryz.prog 57 S57 :=
 have H := k57 h
 jjj (fn := Tryz.f57) (fr := [(28, jjb s57_28 t57_28 l57_28)]) H (by kernel_rfl) (by kernel_rfl) (by kernel_rfl) (by kernel_rfl) (by kernel_rfl) ⟨q57_28 H, trivial⟩ (by kernel_rfl) (fun y => ⟨_, _, rfl, rfl, rfl⟩) e57
noncomputable def c189 : Ctx := { tt := tt, fs := fun n => match n with | 57 => some S57 | _ => none }
theorem k189 (h : ∀ T, (tt T).ok Tryz.prog T) (h57 : jja Tryz.prog 57 S57) : CtxGood Tryz.prog c189 := ⟨⟨h⟩, fun g S hg => (by
 simp only [c189] at hg
 split at hg
 ·cases hg; exact h57
 ·cases hg), jjq, fun _ _ h => (by cases h), fun _ h => (by cases h)⟩
noncomputable def b189 : Code := jjh Tryz.f189
@[reducible] noncomputable def i189 : Shape := ⟨[(0, .lf (.d (.sl .entry))), (1, .lf (.d (.str)))], [], 26⟩
@[reducible] noncomputable def o189 : Shape := ⟨[(4, .lf (.d (.bool)))], [], 26⟩
noncomputable def f189 (a : i189.Y) : Option o189.Y :=
(f57 ((a.1.1, (a.1.2.1, ())), ())).bind fun r204 =>
 bif (!(a.1.2.1 == ([] : Str))) then
 bif r204.1.2.1 then
(ix a.1.1 r204.1.1).bind fun x205 =>
 some (((x205.kind == (1 : Int)), ()), ())
else
 some ((false, ()), ())
else
 some ((true, ()), ())
theorem e189 : ∀ a, f189 a = jjp (jjd c189 []) b189 i189 o189 a := fun a => by kernel_rfl
noncomputable def S189 : jjG := jjf tt 26 i189 o189 [.tmp 4] [] f189
theorem z189 (h : ∀ T, (tt T).ok Tryz.prog T) (h57 : jja Tryz.prog 57 S57) : jja Tryz.prog 189 S189 :=
 have H := k189 h h57
 jjj (fn := Tryz.f189) (fr := []) H (by kernel_rfl) (by kernel_rfl) (by kernel_rfl) (by kernel_rfl) (by kernel_rfl) jje (by kernel_rfl) (fun y => ⟨_, _, rfl, rfl, rfl⟩) e189
noncomputable def c190 : Ctx := { tt := tt, fs := fun n => match n with | _ => none }
theorem k190 (h : ∀ T, (tt T).ok Tryz.prog T) : CtxGood Tryz.prog c190 := ⟨⟨h⟩, fun g S hg => (by cases hg), jjq, fun _ _ h => (by cases h), fun _ h => (by cases h)⟩
noncomputable def b190 : Code := jjh Tryz.f190
@[reducible] noncomputable def s190_26 : Shape := ⟨[(0, .lf (.d (.str))), (3, .lf (.d (.int .i64)))], [], 18⟩
@[reducible] noncomputable def t190_26 : List OSh := [(.ret, ⟨[(2, .lf (.d (.str)))], [], 18⟩), (.exit 0, ⟨[], [], 18⟩)]
noncomputable def g190_26 (y : s190_26.Y) : Option (Sum s190_26.Y (YS t190_26)) :=
 bif (decide (y.1.2.1 ≥ (0 : Int))) then
(ix y.1.1 y.1.2.1).bind fun x191 =>
 bif ((x191.toNat : Int) == (47 : Int)) then
(jqM y.1.1 (0 : Int) y.1.2.1).bind fun x192 =>
 some (.inr (.inl ((x192, ()), ())))
else
 some (.inl ((y.1.1, ((IntKind.i64.wrap (y.1.2.1 - (1 : Int))), ())), ()))
else
 some (.inr (.inr ((), ())))
theorem r190_26 : ∀ y, g190_26 y = jjz (jjd c190 []) (jjl (jjc b190 1 26)) 26 s190_26 t190_26 y := fun y => by kernel_rfl
noncomputable def l190_26 : s190_26.Y → Option (YS t190_26) := jjD g190_26
theorem q190_26 (H : CtxGood Tryz.prog c190) : jjn Tryz.prog (jjc b190 1 26) (jjb s190_26 t190_26 l190_26) :=
 jjt (fr := []) H (by kernel_rfl) (by kernel_rfl) jje (fun y => jji r190_26 y)
@[reducible] noncomputable def i190 : Shape := ⟨[(0, .lf (.d (.str)))], [], 18⟩
@[reducible] noncomputable def o190 : Shape := ⟨[(2, .lf (.d (.str)))], [], 18⟩
noncomputable def f190 (a : i190.Y) : Option o190.Y :=
(l190_26 ((a.1.1, ((IntKind.i64.wrap ((a.1.1.length : Int) - (1 : Int))), ())), ())).bind fun r196 =>
(match r196 with
| .inl r197 =>
 some ((r197.1.1, ()), ())
| .inr r198 =>
 some ((([] : Str), ()), ()))
theorem e190 : ∀ a, f190 a = jjp (jjd c190 [(26, jjb s190_26 t190_26 l190_26)]) b190 i190 o190 a := fun a => by kernel_rfl
noncomputable def S190 : jjG := jjf tt 18 i190 o190 [.tmp 2] [] f190
theorem z190 (h : ∀ T, (tt T).ok Tryz.prog T) : jja Tryz.prog 190 S190 :=
 have H := k190 h
 jjj (fn := Tryz.f190) (fr := [(26, jjb s190_26 t190_26 l190_26)]) H (by kernel_rfl) (by kernel_rfl) (by kernel_rfl) (by kernel_rfl) (by kernel_rfl) ⟨q190_26 H, trivial⟩ (by kernel_rfl) (fun y => ⟨_, _, rfl, rfl, rfl⟩) e190
noncomputable def c53 : Ctx := { tt := tt, fs := fun n => match n with | 102 => some S102v0 | _ => none }
theorem k53 (h : ∀ T, (tt T).ok Tryz.prog T) (h102v0 : jja Tryz.prog 102 S102v0) : CtxGood Tryz.prog c53 := ⟨⟨h⟩, fun g S hg => (by
 simp only [c53] at hg
 split at hg
 ·cases hg; exact h102v0
 ·cases hg), jjq, fun _ _ h => (by cases h), fun _ h => (by cases h)⟩
noncomputable def b53 : Code := jjh Tryz.f53
@[reducible] noncomputable def i53 : Shape := ⟨[(0, .lf (.d (.sl .entry))), (1, .lf (.d (.str)))], [], 12⟩
@[reducible] noncomputable def o53 : Shape := ⟨[(4, .lf (.d (.int .i64))), (5, .lf (.d (.bool)))], [], 12⟩
noncomputable def f53 (a : i53.Y) : Option o53.Y :=
(f102v0 ((a.1.1, ((a.1.2.1, ((0 : Int), ((0 : Int), (([] : Str), ())))), ((), ()))), ())).bind fun r1640 =>
 some ((r1640.1.1, (r1640.1.2.1, ())), ())
theorem e53 : ∀ a, f53 a = jjp (jjd c53 []) b53 i53 o53 a := fun a => by kernel_rfl
noncomputable def S53 : jjG := jjf tt 12 i53 o53 [.tmp 4, .tmp 5] [] f53
theorem z53 (h : ∀ T, (tt T).ok Tryz.prog T) (h102v0 : jja Tryz.prog 102 S102v0) : jja Tryz.prog 53 S53 :=
 have H := k53 h h102v0
 jjj (fn := Tryz.f53) (fr := []) H (by kernel_rfl) (by kernel_rfl) (by kernel_rfl) (by kernel_rfl) (by kernel_rfl) jje (by kernel_rfl) (fun y => ⟨_, _, rfl, rfl, rfl⟩) e53
theorem jJz : ∀ a : Str, Op.bytesLess a a = false := by
 intro a
 induction a with
 | nil => rfl
 | cons b r ih => simp [Op.bytesLess, ih]
theorem jJY : ∀ a b c : Str, Op.bytesLess a b = true → Op.bytesLess b c = true → Op.bytesLess a c = true := by
 intro a
 induction a with
 | nil => intro b c h1 h2; cases c with
  | nil => cases b <;> simp [Op.bytesLess] at h2
  | cons z c => rfl
 | cons x a ih =>
  intro b c h1 h2
  cases b with
  | nil => simp [Op.bytesLess] at h1
  | cons y b =>
   cases c with
   | nil => simp [Op.bytesLess] at h2
   | cons z c =>
    simp only [Op.bytesLess, Bool.or_eq_true, decide_eq_true_eq, Bool.and_eq_true, beq_iff_eq] at h1 h2 ⊢
    rcases h1 with h1 | ⟨rfl, h1⟩
    ·rcases h2 with h2 | ⟨rfl, h2⟩
     ·exact .inl (UInt8.lt_trans h1 h2)
     ·exact .inl h1
    ·rcases h2 with h2 | ⟨rfl, h2⟩
     ·exact .inl h2
     ·exact .inr ⟨rfl, ih b c h1 h2⟩
theorem bl_tri : ∀ a b : Str, Op.bytesLess a b = false → (a == b) = false → Op.bytesLess b a = true := by
 intro a
 induction a with
 | nil => intro b h1 h2; cases b with
  | nil => simp at h2
  | cons y b => simp [Op.bytesLess] at h1
 | cons x a ih =>
  intro b h1 h2
  cases b with
  | nil => rfl
  | cons y b =>
   simp only [Op.bytesLess, Bool.or_eq_false_iff, decide_eq_false_iff_not, Bool.and_eq_false_iff, beq_eq_false_iff_ne, ne_eq] at h1
   simp only [Op.bytesLess, Bool.or_eq_true, decide_eq_true_eq, Bool.and_eq_true, beq_iff_eq]
   by_cases hxy : x = y
   ·subst hxy
    refine .inr ⟨rfl, ih b ?_ ?_⟩
    ·rcases h1.2 with h | h
     ·exact absurd rfl h
     ·exact h
    ·cases h : (a == b) with
     | false => rfl
     | true => rw [eq_of_beq h] at h2; simp at h2
   ·exact .inl (by
     have := h1.1
     rcases UInt8.lt_or_lt_of_ne (fun h => hxy h) with h | h
     ·exact absurd h this
     ·exact h)
theorem bl_asym {a b : Str} (h : Op.bytesLess a b = true) : Op.bytesLess b a = false := by
 cases h2 : Op.bytesLess b a with
 | false => rfl
 | true => have := jJY a b a h h2; rw [jJz] at this; cases this
theorem bl_ne {a b : Str} (h : Op.bytesLess a b = true) : (a == b) = false := by
 cases h2 : (a == b) with
 | false => rfl
 | true => rw [eq_of_beq h2, jJz] at h; cases h
theorem bl_take : ∀ (s : Str) (i : Nat), i < s.length → Op.bytesLess (s.take i) s = true := by
 intro s
 induction s with
 | nil => intro i h; simp at h
 | cons b r ih =>
  intro i h
  cases i with
  | zero => rfl
  | succ i => simp only [List.take_succ_cons, Op.bytesLess]; simp [ih i (by simpa using h)]
def jqp (c : UInt8) (s : Str) : Nat → Option Nat
 | 0 => none
 | n + 1 => match s[n]? with
  | some b => bif (b.toNat : Int) == (c.toNat : Int) then some n else jqp c s n
  | none => none
theorem lastBelow_lt {c : UInt8} {s : Str} : ∀ {n i : Nat}, jqp c s n = some i → i < n ∧ i < s.length := by
 intro n
 induction n with
 | zero => intro i h; cases h
 | succ n ih =>
  intro i h
  simp only [jqp] at h
  split at h
  ·rename_i b hb
   cases hc : ((b.toNat : Int) == (c.toNat : Int)) with
   | true => rw [hc] at h; cases h; exact ⟨Nat.lt_succ_self _, jjy hb⟩
   | false => rw [hc] at h; have := ih h; omega
  ·cases h
def upL (s : Str) : Str := match jqp 47 s s.length with
 | some i => s.take i
 | none => []
theorem upL_less {s : Str} (h : (upL s == []) = false) : Op.bytesLess (upL s) s = true := by
 unfold upL at h ⊢
 split
 ·rename_i i hi; exact bl_take s i (lastBelow_lt hi).2
 ·rename_i hi; rw [hi] at h; cases h
theorem v_l1Up (a) (hs : Bd a.1.1.length) : f190 a = some ((upL a.1.1, ()), ()) := by
 obtain ⟨⟨s, u⟩, u'⟩ := a
 have hs : s.length ≤ 2097152 := hs
 have key : ∀ n, n ≤ s.length → l190_26 ((s, ((n : Int) - 1, ())), ()) = some (match jqp 47 s n with | some i => .inl ((s.take i, ()), ()) | none => .inr ((), ())) := by
  intro n
  induction n with
  | zero => intro _; exact jjT (by rfl)
  | succ n ih =>
   intro hn
   have e : ((n + 1 : Nat) : Int) - 1 = (n : Int) := by omega
   obtain ⟨b, hb⟩ : ∃ b, s[n]? = some b := ⟨s[n], List.getElem?_eq_getElem hn⟩
   have h0 : decide ((n : Int) ≥ 0) = true := by simp
   rw [e]
   simp only [jqp, hb]
   cases hc : ((b.toNat : Int) == ((47 : UInt8).toNat : Int)) with
   | true =>
    refine jjT ?_
    simp only [g190_26, h0, cond_true, jju, hb, Option.bind_some]
    rw [show ((b.toNat : Int) == 47) = true from hc, jzq (by omega)]
    rfl
   | false =>
    refine (jqw ?_).trans (ih (by omega))
    simp only [g190_26, h0, cond_true, jju, hb, Option.bind_some]
    rw [show ((b.toNat : Int) == 47) = false from hc, jjH (by omega) (by omega)]
    rfl
 have hw : IntKind.i64.wrap ((s.length : Int) - 1) = (s.length : Int) - 1 := jjH (by omega) (by omega)
 simp only [f190, hw, key s.length (Nat.le_refl _), Option.bind_some, upL]
 cases jqp 47 s s.length <;> rfl
theorem v_LastIndex (a) (hs : Bd a.1.1.length) (h47 : a.1.2.1 = 47) : f197 a = some (((match jqp 47 a.1.1 a.1.1.length with | some i => (i : Int) | none => -1), ()), ()) := by
 obtain ⟨⟨s, c, u⟩, u'⟩ := a
 obtain rfl : c = 47 := h47
 have hs : s.length ≤ 2097152 := hs
 have key : ∀ n, n ≤ s.length → l197_26 ((s, ((47 : Int), ((n : Int) - 1, ()))), ()) = some (match jqp 47 s n with | some i => .inl (((i : Int), ()), ()) | none => .inr ((), ())) := by
  intro n
  induction n with
  | zero => intro _; exact jjT (by rfl)
  | succ n ih =>
   intro hn
   have e : ((n + 1 : Nat) : Int) - 1 = (n : Int) := by omega
   obtain ⟨b, hb⟩ : ∃ b, s[n]? = some b := ⟨s[n], List.getElem?_eq_getElem hn⟩
   have h0 : decide ((n : Int) ≥ 0) = true := by simp
   rw [e]
   simp only [jqp, hb]
   cases hc : ((b.toNat : Int) == ((47 : UInt8).toNat : Int)) with
   | true =>
    refine jjT ?_
    simp only [g197_26, h0, cond_true, jju, hb, Option.bind_some]
    rw [show ((b.toNat : Int) == 47) = true from hc]
    rfl
   | false =>
    refine (jqw ?_).trans (ih (by omega))
    simp only [g197_26, h0, cond_true, jju, hb, Option.bind_some]
    rw [show ((b.toNat : Int) == 47) = false from hc, jjH (by omega) (by omega)]
    rfl
 have hw : IntKind.i64.wrap ((s.length : Int) - 1) = (s.length : Int) - 1 := jjH (by omega) (by omega)
 simp only [f197, hw, key s.length (Nat.le_refl _), Option.bind_some]
 cases jqp 47 s s.length <;> rfl
theorem v_PathUp (a) (hs : Bd a.1.1.length) : f106 a = some (((bif jxg a.1.1 then upL a.1.1 else []), ()), ()) := by
 obtain ⟨⟨s, u⟩, u'⟩ := a
 have hs : s.length ≤ 2097152 := hs
 have e1 := v_PathOk ((s, ()), ()) hs
 have e2 := v_LastIndex ((s, ((47 : Int), ())), ()) hs rfl
 simp only [f106, e1, Option.bind_some, f158, e2]
 cases jxg s with
 | false => rfl
 | true =>
  simp only [Bool.not_true, cond_false, cond_true]
  unfold upL
  cases hl : jqp 47 s s.length with
  | none =>
   have : maxI (-1) 0 = 0 := by decide
   simp only [this]
   have := jzq (xs := s) (b := 0) (Nat.zero_le _)
   have this : jqM s 0 0 = some (s.take 0) := this
   rw [this]; rfl
  | some i =>
   have hi := (lastBelow_lt hl).2
   have : maxI (i : Int) 0 = (i : Int) := by unfold maxI; rw [if_neg (by omega)]
   simp only [this]
   rw [jzq (by omega)]; rfl
def jj1 (t : List Entry) (p : Str) : Nat := (t.takeWhile fun e => Op.bytesLess e.path p).length
def jxm (t : List Entry) (p : Str) : Bool := match t[jj1 t p]? with
 | some e => e.path == p
 | none => false
def jzV (t : List Entry) (p : Str) : Bool := p == [] || match t[jj1 t p]? with
 | some e => e.path == p && e.kind == 1
 | none => false
theorem jQb (t : List Entry) (p : Str) : jj1 t p ≤ t.length := (List.takeWhile_prefix _).length_le
theorem v_l2At (a) (hs : Bd a.1.1.length) : f57 a = some (((jj1 a.1.1 a.1.2.1 : Int), (jxm a.1.1 a.1.2.1, ())), ()) := by
 obtain ⟨⟨t, p, u⟩, u'⟩ := a
 have hs : t.length ≤ 2097152 := hs
 have key : l57_28 ((t, (p, ((0 : Int), (false, ((0 : Int), ()))))), ()) = _ := loop_list g57_28 t (fun i (_ : Unit) => ((t, (p, ((0 : Int), (false, ((i : Int), ()))))), ()))
  (fun i e _ => some (bif Op.bytesLess e.path p then .inl () else .inr ((((t, (p, ((0 : Int), (false, ((i : Int), ()))))), ())) : YS t57_28))) (fun _ => ((t, (p, ((0 : Int), (false, ((t.length : Int), ()))))), ())) (fun i e s he => ?_) (fun s => ?_) ()
 ·have fold : ∀ (r : List Entry) (k : Nat), k + r.length = t.length → jqC (fun i (e : Entry) (_ : Unit) => some (bif Op.bytesLess e.path p then .inl () else .inr ((((t, (p, ((0 : Int), (false, ((i : Int), ()))))), ())) : YS t57_28))) (fun _ => (((t, (p, ((0 : Int), (false, ((t.length : Int), ()))))), ()) : YS t57_28)) k r () =
    some ((t, (p, ((0 : Int), (false, (((k + (r.takeWhile fun e => Op.bytesLess e.path p).length : Nat) : Int), ()))))), ()) := by
   intro r
   induction r with
   | nil => intro k hk; simp only [jqC, List.takeWhile_nil, List.length_nil, Nat.add_zero] at hk ⊢; rw [hk]
   | cons e r ih =>
    intro k hk
    simp only [jqC, List.takeWhile_cons]
    cases hl : Op.bytesLess e.path p with
    | false => rfl
    | true =>
     simp only [cond_true, if_true, List.length_cons]
     rw [ih (k + 1) (by simp only [List.length_cons] at hk; omega)]
     have : k + 1 + (r.takeWhile fun e => Op.bytesLess e.path p).length = k + ((r.takeWhile fun e => Op.bytesLess e.path p).length + 1) := by omega
     rw [this]
  rw [fold t 0 (Nat.zero_add _), Nat.zero_add] at key
  have hk : (t.takeWhile fun e => Op.bytesLess e.path p).length = jj1 t p := rfl
  rw [hk] at key
  simp only [f57, key, Option.bind_some, jxm, jju]
  cases ht : t[jj1 t p]? with
  | none =>
   have := List.getElem?_eq_none_iff.1 ht
   have : decide ((jj1 t p : Int) < (t.length : Int)) = false := by simp only [decide_eq_false_iff_not]; omega
   rw [this]; rfl
  | some e => rw [jjB (jjy ht)]; rfl
 ·have hi := jjy he
  have hw : Sm i := by unfold Sm; omega
  simp only [g57_28, jjB hi, cond_true, jju, he, Option.bind_some, jjk hw]
  cases Op.bytesLess e.path p <;> rfl
 ·simp only [g57_28, jjC, cond_false]
theorem v_l2Dir (a) (hs : Bd a.1.1.length) : f189 a = some ((jzV a.1.1 a.1.2.1, ()), ()) := by
 obtain ⟨⟨t, p, u⟩, u'⟩ := a
 have e1 := v_l2At ((t, (p, ())), ()) hs
 simp only [f189, e1, Option.bind_some, jzV, jxm, jju]
 cases (p == []) with
 | true => rfl
 | false =>
  cases ht : t[jj1 t p]? with
  | none => rfl
  | some e => simp only [Bool.not_false, cond_true, Option.bind_some, Bool.false_or]; cases (e.path == p) <;> rfl
def Asc (t : List Entry) : Prop := t.Pairwise fun a b => Op.bytesLess a.path b.path = true
theorem Asc.take {t : List Entry} (h : Asc t) (i : Nat) : Asc (t.take i) := List.Pairwise.sublist (List.take_sublist i t) h
theorem jqq : ∀ {t : List Entry} {p : Str}, Asc t → ∀ (h : Nat) (e : Entry), t[h]? = some e → Op.bytesLess e.path p = decide (h < jj1 t p) := by
 intro t p
 induction t with
 | nil => intro _ h e he; simp at he
 | cons x t ih =>
  intro ha h e he
  have ha' := List.pairwise_cons.1 ha
  unfold jj1
  rw [List.takeWhile_cons]
  cases hx : Op.bytesLess x.path p with
  | true =>
   simp only [if_true, List.length_cons]
   cases h with
   | zero => simp only [List.getElem?_cons_zero, Option.some.injEq] at he; subst he; rw [hx]; simp
   | succ h =>
    simp only [List.getElem?_cons_succ] at he
    rw [ih ha'.2 h e he]
    unfold jj1
    congr 1; apply propext; omega
  | false =>
   have : (decide (h < (if false = true then x :: t.takeWhile (fun e => Op.bytesLess e.path p) else []).length)) = false := by simp
   rw [this]
   cases h with
   | zero => simp only [List.getElem?_cons_zero, Option.some.injEq] at he; subst he; exact hx
   | succ h =>
    simp only [List.getElem?_cons_succ] at he
    have h2 := ha'.1 e (List.mem_of_getElem? he)
    cases h3 : Op.bytesLess e.path p with
    | false => rfl
    | true => have := jJY _ _ _ h2 h3; rw [hx] at this; cases this
def cmpI (a b : Str) : Int := bif Op.bytesLess a b then -1 else bif a == b then 0 else 1
theorem v_byPath (a) : f103 a = some ((cmpI a.1.1.1 a.1.2.1.1, ()), ()) := by
 obtain ⟨⟨⟨p, x1⟩, ⟨⟨q, x2⟩, x3⟩⟩, x4⟩ := a
 have h1 : (p == p) = true := by simp
 have h2 : (q == q) = true := by simp
 simp only [f103, f116, f162, Option.bind_some, h1, h2, Bool.not_true, cond_false, cmpI]
 cases Op.bytesLess p q <;> cases (p == q) <;> rfl
theorem cmpI_neg (a b : Str) : decide (cmpI a b < 0) = Op.bytesLess a b := by
 unfold cmpI
 cases Op.bytesLess a b <;> cases (a == b) <;> rfl
theorem cmpI_zero (a b : Str) : (cmpI a b == 0) = (a == b) := by
 unfold cmpI
 cases h : Op.bytesLess a b with
 | true => rw [bl_ne h]; rfl
 | false => cases (a == b) <;> rfl
theorem shr1 {n : Nat} (h : n ≤ 1099511627776) : shrI .u64 (IntKind.u64.wrap (IntKind.i64.wrap (n : Int))) 1 = some (((n / 2 : Nat)) : Int) := by
 rw [jjH (by omega) (by omega)]
 have : IntKind.u64.wrap (n : Int) = (n : Int) := by
  simp [IntKind.wrap, IntKind.bits, IntKind.signed]
  omega
 rw [this]
 unfold shrI
 rw [if_neg (by decide)]
 congr 1
 show Int.fdiv (n : Int) 2 = _
 rw [Int.fdiv_eq_ediv_of_nonneg _ (by decide)]
 omega
theorem v_findEntry (a) (hs : Bd a.1.1.length) (ha : Asc a.1.1) : f53 a = some (((jj1 a.1.1 a.1.2.1 : Int), (jxm a.1.1 a.1.2.1, ())), ()) := by
 obtain ⟨⟨t, p, u⟩, u'⟩ := a
 have hs : t.length ≤ 2097152 := hs
 have hP := jQb t p
 have key : ∀ d i j : Nat, j - i = d → i ≤ jj1 t p → jj1 t p ≤ j → j ≤ t.length →
   jzb ((t, ((), ((), ((0 : Int), (false, ((t.length : Int), ((i : Int), ((j : Int), ())))))))), ((p, ((0 : Int), ((0 : Int), (([] : Str), ())))), ())) =
    some (((t, ((), ((), ((0 : Int), (false, ((t.length : Int), ((jj1 t p : Int), ()))))))), ((p, ((0 : Int), ((0 : Int), (([] : Str), ())))), ()))) := by
  intro d
  induction d using Nat.strongRecOn with
  | _ d ih =>
   intro i j hd hi hj hl
   by_cases hij : i < j
   ·have hh : (i + j) / 2 < t.length := by omega
    obtain ⟨e, he⟩ : ∃ e, t[(i + j) / 2]? = some e := ⟨t[(i + j) / 2], List.getElem?_eq_getElem hh⟩
    have hsh : shrI .u64 (IntKind.u64.wrap (IntKind.i64.wrap ((i : Int) + (j : Int)))) 1 = some ((((i + j) / 2 : Nat)) : Int) := by
     rw [← shr1 (n := i + j) (by omega)]; rw [Int.natCast_add]
    have hwh : IntKind.i64.wrap (((i + j) / 2 : Nat) : Int) = (((i + j) / 2 : Nat) : Int) := jjH (by omega) (by omega)
    have hps := jqq (t := t) (p := p) ha ((i + j) / 2) e he
    cases hb : Op.bytesLess e.path p with
    | true =>
     rw [hb] at hps
     have hlt : (i + j) / 2 < jj1 t p := by simpa using hps.symm
     refine (jqw ?_).trans (ih (j - ((i + j) / 2 + 1)) (by omega) ((i + j) / 2 + 1) j rfl (by omega) hj hl)
     simp only [jJw, jjB hij, cond_true, hsh, hwh, jju, he, Option.bind_some, v_byPath, cmpI_neg, hb, jjk (i := (i + j) / 2) (by unfold Sm; omega)]
    | false =>
     rw [hb] at hps
     have hge : ¬ (i + j) / 2 < jj1 t p := by simpa using hps.symm
     refine (jqw ?_).trans (ih ((i + j) / 2 - i) (by omega) i ((i + j) / 2) rfl hi (by omega) (by omega))
     simp only [jJw, jjB hij, cond_true, hsh, hwh, jju, he, Option.bind_some, v_byPath, cmpI_neg, hb, cond_false]
   ·have hi' : i = jj1 t p := by omega
    have hlt : decide ((i : Int) < (j : Int)) = false := by simp only [decide_eq_false_iff_not]; omega
    refine jjT ?_
    simp only [jJw, hlt, cond_false]
    rw [hi']
 have k0 : jzb ((t, ((), ((), ((0 : Int), (false, ((t.length : Int), ((0 : Int), ((t.length : Int), ())))))))), ((p, ((0 : Int), ((0 : Int), (([] : Str), ())))), ())) = _ := key t.length 0 t.length (Nat.sub_zero _) (Nat.zero_le _) hP (Nat.le_refl _)
 have fb : f102v0 ((t, ((p, ((0 : Int), ((0 : Int), (([] : Str), ())))), ((), ()))), ()) = some (((jj1 t p : Int), (jxm t p, ())), ()) := by
  simp only [f102v0, k0, Option.bind_some, jxm, jju, v_byPath, cmpI_zero]
  cases ht : t[jj1 t p]? with
  | none =>
   have := List.getElem?_eq_none_iff.1 ht
   have : decide ((jj1 t p : Int) < (t.length : Int)) = false := by simp only [decide_eq_false_iff_not]; omega
   rw [this]; rfl
  | some e => rw [jjB (jjy ht)]; rfl
 simp only [f53, fb, Option.bind_some]
noncomputable def c148 : Ctx := { tt := tt, fs := fun n => match n with | 188 => some S188 | 189 => some S189 | 190 => some S190 | _ => none }
theorem k148 (h : ∀ T, (tt T).ok Tryz.prog T) (h188 : jja Tryz.prog 188 S188) (h189 : jja Tryz.prog 189 S189) (h190 : jja Tryz.prog 190 S190) : CtxGood Tryz.prog c148 := ⟨⟨h⟩, fun g S hg => (by
 simp only [c148] at hg
 split at hg
 ·cases hg; exact h188
 ·cases hg; exact h189
 ·cases hg; exact h190
 ·cases hg), jjq, fun _ _ h => (by cases h), fun _ h => (by cases h)⟩
noncomputable def b148 : Code := jjh Tryz.f148
@[reducible] noncomputable def s148_840 : Shape := ⟨[(0, .lf (.d (.sl .entry))), (3, .lf (.d (.int .i64)))], [], 53⟩
@[reducible] noncomputable def t148_840 : List OSh := [(.norm, ⟨[(0, .lf (.d (.sl .entry))), (3, .lf (.d (.int .i64))), (11, .lf (.d (.sl .entry))), (12, .lf (.d (.int .i64))), (13, .lf (.rptr [.str, .int .i64, .int .i64, .str] 0)), (14, .agg [.d (.str), .d (.int .i64), .d (.int .i64), .d (.str)]), (15, .lf (.d (.bool))), (16, .lf (.d (.bool))), (17, .lf (.d (.bool))), (34, .lf (.d (.bool)))], [], 53⟩)]
noncomputable def jJT (y : s148_840.Y) : Option (YS t148_840) :=
(ix y.1.1 y.1.2.1).bind fun x359 =>
(f188 (((x359.path, (x359.kind, (x359.mode, (x359.text, ())))), ()), ())).bind fun r360 =>
 bif (!r360.1.1) then
 some (((y.1.1, (y.1.2.1, (y.1.1, (y.1.2.1, ((x359.path, (x359.kind, (x359.mode, (x359.text, ())))), ((x359.path, (x359.kind, (x359.mode, (x359.text, ())))), (r360.1.1, ((!r360.1.1), (true, (true, ())))))))))), ()))
else
 bif (decide (y.1.2.1 > (0 : Int))) then
(ix y.1.1 (IntKind.i64.wrap (y.1.2.1 - (1 : Int)))).bind fun x361 =>
(ix y.1.1 y.1.2.1).bind fun x362 =>
 some (((y.1.1, (y.1.2.1, (y.1.1, (y.1.2.1, ((x359.path, (x359.kind, (x359.mode, (x359.text, ())))), ((x359.path, (x359.kind, (x359.mode, (x359.text, ())))), (r360.1.1, ((!r360.1.1), (false, ((!(Op.bytesLess x361.path x362.path)), ())))))))))), ()))
else
 some (((y.1.1, (y.1.2.1, (y.1.1, (y.1.2.1, ((x359.path, (x359.kind, (x359.mode, (x359.text, ())))), ((x359.path, (x359.kind, (x359.mode, (x359.text, ())))), (r360.1.1, ((!r360.1.1), (false, (false, ())))))))))), ()))
theorem r148_840 : ∀ y, jJT y = jjM (jjd c148 []) (jjc (jjl (jjc b148 1 26)) 52 840) 840 s148_840 t148_840 y := fun y => by kernel_rfl
theorem q148_840 (H : CtxGood Tryz.prog c148) : jjn Tryz.prog (jjc (jjl (jjc b148 1 26)) 52 840) (jjb s148_840 t148_840 jJT) :=
 jjv (fr := []) H (by kernel_rfl) jje r148_840
@[reducible] noncomputable def s148_26 : Shape := ⟨[(0, .lf (.d (.sl .entry))), (3, .lf (.d (.int .i64)))], [], 53⟩
@[reducible] noncomputable def t148_26 : List OSh := [(.ret, ⟨[(2, .lf (.d (.bool)))], [], 53⟩), (.exit 0, ⟨[(0, .lf (.d (.sl .entry)))], [], 53⟩)]
noncomputable def g148_26 (y : s148_26.Y) : Option (Sum s148_26.Y (YS t148_26)) :=
 bif (decide (y.1.2.1 < (y.1.1.length : Int))) then
(jJT ((y.1.1, (y.1.2.1, ())), ())).bind fun r364 =>
 bif r364.1.2.2.2.2.2.2.2.2.2.1 then
 some (.inr (.inl ((false, ()), ())))
else
 some (.inl ((r364.1.1, ((IntKind.i64.wrap (r364.1.2.1 + (1 : Int))), ())), ()))
else
 some (.inr (.inr ((y.1.1, ()), ())))
theorem r148_26 : ∀ y, g148_26 y = jjz (jjd c148 [(840, jjb s148_840 t148_840 jJT)]) (jjl (jjc b148 1 26)) 26 s148_26 t148_26 y := fun y => by kernel_rfl
noncomputable def l148_26 : s148_26.Y → Option (YS t148_26) := jjD g148_26
theorem q148_26 (H : CtxGood Tryz.prog c148) : jjn Tryz.prog (jjc b148 1 26) (jjb s148_26 t148_26 l148_26) :=
 jjt (fr := [(840, jjb s148_840 t148_840 jJT)]) H (by kernel_rfl) (by kernel_rfl) ⟨q148_840 H, trivial⟩ (fun y => jji r148_26 y)
@[reducible] noncomputable def s148_58 : Shape := ⟨[(0, .lf (.d (.sl .entry))), (4, .lf (.d (.int .i64)))], [], 53⟩
@[reducible] noncomputable def t148_58 : List OSh := [(.ret, ⟨[(2, .lf (.d (.bool)))], [], 53⟩), (.exit 2, ⟨[(0, .lf (.d (.sl .entry)))], [], 53⟩)]
noncomputable def g148_58 (y : s148_58.Y) : Option (Sum s148_58.Y (YS t148_58)) :=
 bif (decide (y.1.2.1 < (y.1.1.length : Int))) then
(ix y.1.1 y.1.2.1).bind fun x386 =>
(f190 ((x386.path, ()), ())).bind fun r387 =>
(f189 ((y.1.1, (r387.1.1, ())), ())).bind fun r388 =>
 bif (!r388.1.1) then
 some (.inr (.inl ((false, ()), ())))
else
 some (.inl ((y.1.1, ((IntKind.i64.wrap (y.1.2.1 + (1 : Int))), ())), ()))
else
 some (.inr (.inr ((y.1.1, ()), ())))
theorem r148_58 : ∀ y, g148_58 y = jjz (jjd c148 []) (jjl (jjc b148 1 58)) 58 s148_58 t148_58 y := fun y => by kernel_rfl
noncomputable def l148_58 : s148_58.Y → Option (YS t148_58) := jjD g148_58
theorem q148_58 (H : CtxGood Tryz.prog c148) : jjn Tryz.prog (jjc b148 1 58) (jjb s148_58 t148_58 l148_58) :=
 jjt (fr := []) H (by kernel_rfl) (by kernel_rfl) jje (fun y => jji r148_58 y)
@[reducible] noncomputable def i148 : Shape := ⟨[(0, .lf (.d (.sl .entry)))], [], 53⟩
@[reducible] noncomputable def o148 : Shape := ⟨[(2, .lf (.d (.bool)))], [], 53⟩
noncomputable def f148 (a : i148.Y) : Option o148.Y :=
(l148_26 ((a.1.1, ((0 : Int), ())), ())).bind fun r374 =>
(match r374 with
| .inl r375 =>
 some ((r375.1.1, ()), ())
| .inr r376 =>
(l148_58 ((r376.1.1, ((0 : Int), ())), ())).bind fun r392 =>
(match r392 with
| .inl r393 =>
 some ((r393.1.1, ()), ())
| .inr r394 =>
 some (((decide ((r394.1.1.length : Int) ≤ (16 : Int))), ()), ())))
theorem e148 : ∀ a, f148 a = jjp (jjd c148 [(26, jjb s148_26 t148_26 l148_26), (58, jjb s148_58 t148_58 l148_58)]) b148 i148 o148 a := fun a => by kernel_rfl
noncomputable def S148 : jjG := jjf tt 53 i148 o148 [.tmp 2] [] f148
theorem z148 (h : ∀ T, (tt T).ok Tryz.prog T) (h188 : jja Tryz.prog 188 S188) (h189 : jja Tryz.prog 189 S189) (h190 : jja Tryz.prog 190 S190) : jja Tryz.prog 148 S148 :=
 have H := k148 h h188 h189 h190
 jjj (fn := Tryz.f148) (fr := [(26, jjb s148_26 t148_26 l148_26), (58, jjb s148_58 t148_58 l148_58)]) H (by kernel_rfl) (by kernel_rfl) (by kernel_rfl) (by kernel_rfl) (by kernel_rfl) ⟨q148_26 H, q148_58 H, trivial⟩ (by kernel_rfl) (fun y => ⟨_, _, rfl, rfl, rfl⟩) e148
noncomputable def c55 : Ctx := { tt := tt, fs := fun n => match n with | 53 => some S53 | 106 => some S106 | _ => none }
theorem k55 (h : ∀ T, (tt T).ok Tryz.prog T) (h53 : jja Tryz.prog 53 S53) (h106 : jja Tryz.prog 106 S106) : CtxGood Tryz.prog c55 := ⟨⟨h⟩, fun g S hg => (by
 simp only [c55] at hg
 split at hg
 ·cases hg; exact h53
 ·cases hg; exact h106
 ·cases hg), jjq, fun _ _ h => (by cases h), fun _ h => (by cases h)⟩
noncomputable def b55 : Code := jjh Tryz.f55
@[reducible] noncomputable def i55 : Shape := ⟨[(0, .lf (.d (.sl .entry))), (1, .lf (.d (.str)))], [], 27⟩
@[reducible] noncomputable def o55 : Shape := ⟨[(4, .lf (.d (.bool)))], [], 27⟩
noncomputable def f55 (a : i55.Y) : Option o55.Y :=
(f106 ((a.1.2.1, ()), ())).bind fun r1645 =>
 bif (r1645.1.1 == ([] : Str)) then
 some ((true, ()), ())
else
(f53 ((a.1.1, (r1645.1.1, ())), ())).bind fun r1647 =>
 bif r1647.1.2.1 then
(ix a.1.1 r1647.1.1).bind fun x1648 =>
 some (((x1648.kind == (1 : Int)), ()), ())
else
 some ((false, ()), ())
theorem e55 : ∀ a, f55 a = jjp (jjd c55 []) b55 i55 o55 a := fun a => by kernel_rfl
noncomputable def S55 : jjG := jjf tt 27 i55 o55 [.tmp 4] [] f55
theorem z55 (h : ∀ T, (tt T).ok Tryz.prog T) (h53 : jja Tryz.prog 53 S53) (h106 : jja Tryz.prog 106 S106) : jja Tryz.prog 55 S55 :=
 have H := k55 h h53 h106
 jjj (fn := Tryz.f55) (fr := []) H (by kernel_rfl) (by kernel_rfl) (by kernel_rfl) (by kernel_rfl) (by kernel_rfl) jje (by kernel_rfl) (fun y => ⟨_, _, rfl, rfl, rfl⟩) e55
noncomputable def c22 : Ctx := { tt := tt, fs := fun n => match n with | 54 => some S54 | 55 => some S55 | _ => none }
theorem k22 (h : ∀ T, (tt T).ok Tryz.prog T) (h54 : jja Tryz.prog 54 S54) (h55 : jja Tryz.prog 55 S55) : CtxGood Tryz.prog c22 := ⟨⟨h⟩, fun g S hg => (by
 simp only [c22] at hg
 split at hg
 ·cases hg; exact h54
 ·cases hg; exact h55
 ·cases hg), jjq, fun _ _ h => (by cases h), fun _ h => (by cases h)⟩
noncomputable def b22 : Code := jjh Tryz.f22
@[reducible] noncomputable def s22_7474 : Shape := ⟨[(0, .lf (.d (.sl .entry))), (3, .lf (.d (.int .i64))), (4, .lf (.ptr 4 0)), (8, .lf (.d (.sl .entry))), (9, .lf (.d (.int .i64))), (10, .lf (.d (.int .i64)))], [(4, .box [.d (.str), .d (.int .i64), .d (.int .i64), .d (.str)], .same)], 43⟩
@[reducible] noncomputable def t22_7474 : List OSh := [(.norm, ⟨[(0, .lf (.d (.sl .entry))), (8, .lf (.d (.sl .entry))), (9, .lf (.d (.int .i64))), (10, .lf (.d (.int .i64))), (15, .agg [.d (.str), .d (.int .i64), .d (.int .i64), .d (.str)]), (16, .lf (.d (.bool))), (17, .lf (.d (.bool))), (18, .lf (.d (.bool))), (32, .lf (.d (.bool))), (33, .lf (.d (.bool))), (41, .lf (.d (.bool)))], [], 43⟩)]
noncomputable def jJQ (y : s22_7474.Y) : Option (YS t22_7474) :=
(f54 (((y.2.1.1, (y.2.1.2.1, (y.2.1.2.2.1, (y.2.1.2.2.2.1, ())))), ()), ())).bind fun r1660 =>
 bif (!r1660.1.1) then
 some (((y.1.1, (y.1.2.2.2.1, (y.1.2.2.2.2.1, (y.1.2.2.2.2.2.1, ((y.2.1.1, (y.2.1.2.1, (y.2.1.2.2.1, (y.2.1.2.2.2.1, ())))), (r1660.1.1, ((!r1660.1.1), (true, (true, (true, (true, ()))))))))))), ()))
else
 bif (decide (y.1.2.1 > (0 : Int))) then
(ix y.1.1 (IntKind.i64.wrap (y.1.2.1 - (1 : Int)))).bind fun x1661 =>
 bif (!(Op.bytesLess x1661.path y.2.1.1)) then
 some (((y.1.1, (y.1.2.2.2.1, (y.1.2.2.2.2.1, (y.1.2.2.2.2.2.1, ((y.2.1.1, (y.2.1.2.1, (y.2.1.2.2.1, (y.2.1.2.2.2.1, ())))), (r1660.1.1, ((!r1660.1.1), (false, ((!(Op.bytesLess x1661.path y.2.1.1)), (true, (true, ()))))))))))), ()))
else
(jqM y.1.1 (0 : Int) y.1.2.1).bind fun x1662 =>
(f55 ((x1662, (y.2.1.1, ())), ())).bind fun r1663 =>
 some (((y.1.1, (y.1.2.2.2.1, (y.1.2.2.2.2.1, (y.1.2.2.2.2.2.1, ((y.2.1.1, (y.2.1.2.1, (y.2.1.2.2.1, (y.2.1.2.2.2.1, ())))), (r1660.1.1, ((!r1660.1.1), (false, ((!(Op.bytesLess x1661.path y.2.1.1)), (false, ((!r1663.1.1), ()))))))))))), ()))
else
(jqM y.1.1 (0 : Int) y.1.2.1).bind fun x1664 =>
(f55 ((x1664, (y.2.1.1, ())), ())).bind fun r1665 =>
 some (((y.1.1, (y.1.2.2.2.1, (y.1.2.2.2.2.1, (y.1.2.2.2.2.2.1, ((y.2.1.1, (y.2.1.2.1, (y.2.1.2.2.1, (y.2.1.2.2.2.1, ())))), (r1660.1.1, ((!r1660.1.1), (false, (false, (false, ((!r1665.1.1), ()))))))))))), ()))
theorem r22_7474 : ∀ y, jJQ y = jjM (jjd c22 []) (jjc (jjl (jjc b22 1 58)) 116 7474) 7474 s22_7474 t22_7474 y := fun y => by kernel_rfl
theorem q22_7474 (H : CtxGood Tryz.prog c22) : jjn Tryz.prog (jjc (jjl (jjc b22 1 58)) 116 7474) (jjb s22_7474 t22_7474 jJQ) :=
 jjv (fr := []) H (by kernel_rfl) jje r22_7474
@[reducible] noncomputable def s22_58 : Shape := ⟨[(0, .lf (.d (.sl .entry))), (8, .lf (.d (.sl .entry))), (9, .lf (.d (.int .i64))), (10, .lf (.d (.int .i64)))], [], 43⟩
@[reducible] noncomputable def t22_58 : List OSh := [(.ret, ⟨[(2, .lf (.d (.bool)))], [], 43⟩), (.exit 0, ⟨[], [], 43⟩)]
noncomputable def g22_58 (y : s22_58.Y) : Option (Sum s22_58.Y (YS t22_58)) :=
 bif (decide (y.1.2.2.2.1 < y.1.2.2.1)) then
(ix y.1.2.1 y.1.2.2.2.1).bind fun x1668 =>
(jJQ ((y.1.1, (y.1.2.2.2.1, ((), (y.1.2.1, (y.1.2.2.1, (y.1.2.2.2.1, ())))))), ((x1668.path, (x1668.kind, (x1668.mode, (x1668.text, ())))), ()))).bind fun r1669 =>
 bif r1669.1.2.2.2.2.2.2.2.2.2.2.1 then
 some (.inr (.inl ((false, ()), ())))
else
 some (.inl ((r1669.1.1, (r1669.1.2.1, (r1669.1.2.2.1, ((IntKind.i64.wrap (r1669.1.2.2.2.1 + (1 : Int))), ())))), ()))
else
 some (.inr (.inr ((), ())))
theorem r22_58 : ∀ y, g22_58 y = jjz (jjd c22 [(7474, jjb s22_7474 t22_7474 jJQ)]) (jjl (jjc b22 1 58)) 58 s22_58 t22_58 y := fun y => by kernel_rfl
noncomputable def l22_58 : s22_58.Y → Option (YS t22_58) := jjD g22_58
theorem q22_58 (H : CtxGood Tryz.prog c22) : jjn Tryz.prog (jjc b22 1 58) (jjb s22_58 t22_58 l22_58) :=
 jjt (fr := [(7474, jjb s22_7474 t22_7474 jJQ)]) H (by kernel_rfl) (by kernel_rfl) ⟨q22_7474 H, trivial⟩ (fun y => jji r22_58 y)
@[reducible] noncomputable def i22 : Shape := ⟨[(0, .lf (.d (.sl .entry)))], [], 43⟩
@[reducible] noncomputable def o22 : Shape := ⟨[(2, .lf (.d (.bool)))], [], 43⟩
noncomputable def f22 (a : i22.Y) : Option o22.Y :=
 bif (decide ((a.1.1.length : Int) > (16 : Int))) then
 some ((false, ()), ())
else
(l22_58 ((a.1.1, (a.1.1, ((a.1.1.length : Int), ((0 : Int), ())))), ())).bind fun r1670 =>
(match r1670 with
| .inl r1671 =>
 some ((r1671.1.1, ()), ())
| .inr r1672 =>
 some ((true, ()), ()))
theorem e22 : ∀ a, f22 a = jjp (jjd c22 [(58, jjb s22_58 t22_58 l22_58)]) b22 i22 o22 a := fun a => by kernel_rfl
noncomputable def S22 : jjG := jjf tt 43 i22 o22 [.tmp 2] [] f22
theorem z22 (h : ∀ T, (tt T).ok Tryz.prog T) (h54 : jja Tryz.prog 54 S54) (h55 : jja Tryz.prog 55 S55) : jja Tryz.prog 22 S22 :=
 have H := k22 h h54 h55
 jjj (fn := Tryz.f22) (fr := [(58, jjb s22_58 t22_58 l22_58)]) H (by kernel_rfl) (by kernel_rfl) (by kernel_rfl) (by kernel_rfl) (by kernel_rfl) ⟨q22_58 H, trivial⟩ (by kernel_rfl) (fun y => ⟨_, _, rfl, rfl, rfl⟩) e22
theorem jQn {α : Type} {ok ok' : Nat → α → Bool} : ∀ (xs : List α) (j : Nat), (∀ i x, xs[i]? = some x → ok (j + i) x = ok' (j + i) x) → jqu ok j xs = jqu ok' j xs := by
 intro xs
 induction xs with
 | nil => intro j _; rfl
 | cons x r ih =>
  intro j h
  simp only [jqu]
  rw [show ok j x = ok' j x from h 0 x rfl, ih (j + 1) (fun i y hy => by have := h (i + 1) y (by simpa using hy); rw [show j + (i + 1) = j + 1 + i by omega] at this; exact this)]
theorem allI_get {α : Type} {ok : Nat → α → Bool} : ∀ (xs : List α) (j : Nat), jqu ok j xs = true → ∀ i x, xs[i]? = some x → ok (j + i) x = true := by
 intro xs
 induction xs with
 | nil => intro j _ i x h; simp at h
 | cons y r ih =>
  intro j h i x hx
  simp only [jqu, Bool.and_eq_true] at h
  cases i with
  | zero => simp only [List.getElem?_cons_zero, Option.some.injEq] at hx; subst hx; exact h.1
  | succ i => have := ih (j + 1) h.2 i x (by simpa using hx); rwa [show j + 1 + i = j + (i + 1) by omega] at this
abbrev BdEs (t : List Entry) : Prop := Bd t.length ∧ ∀ e, e ∈ t → BdE e
def lessAt (t : List Entry) (i : Nat) (e : Entry) : Bool := i == 0 || match t[i - 1]? with
 | some q => Op.bytesLess q.path e.path
 | none => false
def okAt (t : List Entry) (i : Nat) (e : Entry) : Bool := entOk e && lessAt t i e
def jjP (t : List Entry) : Bool := jqu (okAt t) 0 t && t.all (fun e => jzV t (upL e.path)) && decide (t.length ≤ 16)
theorem dgt0 (i : Nat) : decide ((i : Int) > 0) = !(i == 0) := by
 cases i with
 | zero => rfl
 | succ i => simp
theorem v_TreeOk (a) (hs : BdEs a.1.1) : f148 a = some ((jjP a.1.1, ()), ()) := by
 obtain ⟨⟨t, u⟩, u'⟩ := a
 obtain ⟨hl, he⟩ := hs
 have hl : t.length ≤ 2097152 := hl
 have key : l148_26 ((t, ((0 : Int), ())), ()) = some (bif jqu (okAt t) 0 t then .inr ((t, ()), ()) else .inl ((false, ()), ())) := by
  refine jjN g148_26 t (fun i => ((t, ((i : Int), ())), ())) _ _ _ (fun i x hx => ?_) ?_
  ·have hi := jjy hx
   have hw : Sm i := by unfold Sm; omega
   have hb := he x (List.mem_of_getElem? hx)
   simp only [g148_26, jjB hi, cond_true, jJT, jju, hx, Option.bind_some]
   rw [v_l2Entry _ hb.1 hb.2]
   simp only [Option.bind_some, okAt, dgt0]
   cases entOk x with
   | false => rfl
   | true =>
    simp only [Bool.not_true, cond_false, Bool.true_and, lessAt]
    cases i with
    | zero => simp only [beq_self_eq_true, Bool.not_true, cond_false, Option.bind_some, Bool.true_or, cond_true, jjk hw]
    | succ i =>
     have h0 : (i + 1 == 0) = false := rfl
     have hi' : i < t.length := by omega
     obtain ⟨q, hq⟩ : ∃ q, t[i]? = some q := ⟨t[i], List.getElem?_eq_getElem hi'⟩
     simp only [h0, Bool.not_false, cond_true, jzX (i := i) (by unfold Sm; omega), jju, hq, hx, Option.bind_some, Bool.false_or, Nat.add_sub_cancel]
     cases Op.bytesLess q.path x.path with
     | false => rfl
     | true => simp only [Bool.not_true, cond_false, cond_true, jjk hw]
  ·simp only [g148_26, jjC, cond_false]
 have key2 : l148_58 ((t, ((0 : Int), ())), ()) = some (bif jqu (fun _ e => jzV t (upL e.path)) 0 t then .inr ((t, ()), ()) else .inl ((false, ()), ())) := by
  refine jjN g148_58 t (fun i => ((t, ((i : Int), ())), ())) _ _ _ (fun i x hx => ?_) ?_
  ·have hi := jjy hx
   have hw : Sm i := by unfold Sm; omega
   have hb := he x (List.mem_of_getElem? hx)
   simp only [g148_58, jjB hi, cond_true, jju, hx, Option.bind_some]
   rw [v_l1Up _ hb.1]
   simp only [Option.bind_some]
   rw [v_l2Dir _ hl]
   simp only [Option.bind_some, jjk hw]
   cases jzV t (upL x.path) <;> rfl
  ·simp only [g148_58, jjC, cond_false]
 rw [jjZ] at key2
 simp only [f148, key, Option.bind_some, jjP]
 cases jqu (okAt t) 0 t with
 | false => rfl
 | true =>
  simp only [cond_true, key2, Option.bind_some, Bool.true_and]
  cases List.all t (fun e => jzV t (upL e.path)) with
  | false => rfl
  | true => have := leb6 t.length 16; simp only [cond_true, Bool.true_and]; rw [← this]; rfl
theorem asc_step {t : List Entry} {i : Nat} {e : Entry} (he : t[i]? = some e) (h : Asc (t.take i)) (hl : lessAt t i e = true) : Asc (t.take (i + 1)) := by
 rw [List.take_add_one, he]
 unfold Asc
 refine List.pairwise_append.2 ⟨h, by simp, ?_⟩
 intro a ha b hb
 have hb : b = e := by simpa using hb
 subst hb
 obtain ⟨k, hk⟩ := List.mem_iff_getElem?.1 ha
 have hki : k < i := by
  have := jjy hk
  rw [List.length_take] at this; omega
 unfold lessAt at hl
 have h0 : (i == 0) = false := by simp; omega
 rw [h0, Bool.false_or] at hl
 split at hl
 ·rename_i q hq
  by_cases hkl : k = i - 1
  ·have : t[k]? = some a := by rw [List.getElem?_take, if_pos hki] at hk; exact hk
   rw [hkl, hq] at this
   cases this; exact hl
  ·have hq' : (t.take i)[i - 1]? = some q := by rw [List.getElem?_take, if_pos (by omega)]; exact hq
   have := List.pairwise_iff_getElem.1 h k (i - 1) (jjy hk) (jjy hq') (by omega)
   rw [(List.getElem?_eq_some_iff.1 hk).2, (List.getElem?_eq_some_iff.1 hq').2] at this
   exact jJY _ _ _ this hl
 ·cases hl
theorem asc_of {t : List Entry} (h : jqu (okAt t) 0 t = true) : Asc t := by
 have : ∀ i, i ≤ t.length → Asc (t.take i) := by
  intro i
  induction i with
  | zero => intro _; simp [Asc]
  | succ i ih =>
   intro hi
   have he : t[i]? = some t[i] := List.getElem?_eq_getElem hi
   have := allI_get t 0 h i _ he
   rw [Nat.zero_add] at this
   simp only [okAt, Bool.and_eq_true] at this
   exact asc_step he (ih (by omega)) this.2
 have := this t.length (Nat.le_refl _)
 rwa [List.take_length] at this
theorem dirIn_take {t : List Entry} {i : Nat} {e : Entry} {p : Str} (ha : Asc t) (he : t[i]? = some e) (hp : Op.bytesLess p e.path = true) : jzV (t.take i) p = jzV t p := by
 have hi := jjy he
 have h1 := jqq (p := p) ha i e he
 rw [bl_asym hp] at h1
 have hle : jj1 t p ≤ i := by
  have : ¬ i < jj1 t p := by simpa using h1.symm
  omega
 have hpos : jj1 (t.take i) p = jj1 t p := by
  by_cases hlt : jj1 t p = i
  ·have hlen : (t.take i).length = i := by rw [List.length_take]; omega
   have h2 := jQb (t.take i) p
   rw [hlen] at h2
   by_cases h3 : jj1 (t.take i) p < i
   ·obtain ⟨q, hq⟩ : ∃ q, (t.take i)[jj1 (t.take i) p]? = some q := ⟨_, List.getElem?_eq_getElem (by rw [hlen]; exact h3)⟩
    have h4 := jqq (p := p) (ha.take i) _ q hq
    have hq' : t[jj1 (t.take i) p]? = some q := by rw [List.getElem?_take, if_pos h3] at hq; exact hq
    have h5 := jqq (p := p) ha _ q hq'
    rw [h4] at h5
    have : decide (jj1 (t.take i) p < jj1 (t.take i) p) = false := by simp
    rw [this] at h5
    have : ¬ jj1 (t.take i) p < jj1 t p := by simpa using h5.symm
    omega
   ·omega
  ·have hlt : jj1 t p < i := by omega
   obtain ⟨q, hq⟩ : ∃ q, t[jj1 t p]? = some q := ⟨_, List.getElem?_eq_getElem (by omega)⟩
   have hq' : (t.take i)[jj1 t p]? = some q := by rw [List.getElem?_take, if_pos hlt]; exact hq
   have h4 := jqq (p := p) ha _ q hq
   have h5 := jqq (p := p) (ha.take i) _ q hq'
   have e4 : decide (jj1 t p < jj1 t p) = false := by simp
   rw [h4, e4] at h5
   have h6 : ¬ jj1 t p < jj1 (t.take i) p := by simpa using h5.symm
   by_cases h7 : jj1 (t.take i) p < jj1 t p
   ·obtain ⟨r, hr⟩ : ∃ r, t[jj1 (t.take i) p]? = some r := ⟨_, List.getElem?_eq_getElem (by omega)⟩
    have hr' : (t.take i)[jj1 (t.take i) p]? = some r := by rw [List.getElem?_take, if_pos (by omega)]; exact hr
    have h8 := jqq (p := p) ha _ r hr
    have h9 := jqq (p := p) (ha.take i) _ r hr'
    have e9 : decide (jj1 (t.take i) p < jj1 (t.take i) p) = false := by simp
    rw [h8, e9] at h9
    have : ¬ jj1 (t.take i) p < jj1 t p := by simpa using h9
    omega
   ·omega
 unfold jzV
 rw [hpos]
 congr 1
 by_cases hlt : jj1 t p < i
 ·rw [List.getElem?_take, if_pos hlt]
 ·have : jj1 t p = i := by omega
  rw [this, he, List.getElem?_take, if_neg (by omega)]
  have : (e.path == p) = false := by
   cases h : (e.path == p) with
   | false => rfl
   | true => rw [eq_of_beq h, jJz] at hp; cases hp
  simp [this]
def jzN (t : List Entry) (p : Str) : Bool := jzV t (bif jxg p then upL p else [])
theorem v_hasPlaceFor (a) (hs : Bd a.1.1.length) (hp : Bd a.1.2.1.length) (ha : Asc a.1.1) : f55 a = some ((jzN a.1.1 a.1.2.1, ()), ()) := by
 obtain ⟨⟨t, p, u⟩, u'⟩ := a
 have e1 := v_PathUp ((p, ()), ()) hp
 have e2 := v_findEntry ((t, ((bif jxg p then upL p else []), ())), ()) hs ha
 simp only [f55, e1, e2, Option.bind_some, jzN, jzV, jxm, jju]
 generalize (bif jxg p then upL p else []) = up
 cases (up == []) with
 | true => rfl
 | false =>
  cases ht : t[jj1 t up]? with
  | none => rfl
  | some e => simp only [cond_false, cond_true, Option.bind_some, Bool.false_or]; cases (e.path == up) <;> rfl
theorem treeOk_eq (t : List Entry) : jjP t = (decide (t.length ≤ 16) && jqu (fun i e => okAt t i e && jzN (t.take i) e.path) 0 t) := by
 unfold jjP
 rw [allI_and]
 cases h : jqu (okAt t) 0 t with
 | false => simp
 | true =>
  have ha := asc_of h
  have : jqu (fun i e => jzN (t.take i) e.path) 0 t = t.all (fun e => jzV t (upL e.path)) := by
   rw [← jjZ _ 0 t]
   refine jQn t 0 (fun i e he => ?_)
   rw [Nat.zero_add]
   have hok := allI_get t 0 h i e he
   rw [Nat.zero_add] at hok
   have hpo : jxg e.path = true := by
    unfold okAt entOk at hok
    simp only [Bool.and_eq_true] at hok
    exact hok.1.1
   unfold jzN
   rw [hpo, cond_true]
   cases hu : (upL e.path == []) with
   | true => unfold jzV; rw [hu]; rfl
   | false => exact dirIn_take ha he (upL_less hu)
  rw [this]; simp only [Bool.true_and]; rw [Bool.and_comm]
theorem v_iTreeOk (a) (hs : BdEs a.1.1) : f22 a = some ((jjP a.1.1, ()), ()) := by
 obtain ⟨⟨t, u⟩, u'⟩ := a
 obtain ⟨hl, he⟩ := hs
 have hl : t.length ≤ 2097152 := hl
 have key : l22_58 ((t, (t, ((t.length : Int), ((0 : Int), ())))), ()) = some (bif jqu (fun i e => okAt t i e && jzN (t.take i) e.path) 0 t then .inr ((), ()) else .inl ((false, ()), ())) := by
  have := jq3 g22_58 t (fun i (_ : Unit) => ((t, (t, ((t.length : Int), ((i : Int), ())))), ())) (fun i e _ => some (bif okAt t i e && jzN (t.take i) e.path then .inl () else .inr ((.inl ((false, ()), ())) : YS t22_58))) (fun _ => (.inr ((), ()) : YS t22_58))
   (fun i _ => Asc (t.take i)) () (by simp [Asc]) (fun i x _ hx hI => ?_) (fun _ _ => ?_)
  ·exact this.trans (jQl (fun i e => okAt t i e && jzN (t.take i) e.path) (fun _ s => s) _ _ t 0 ())
  ·have hi := jjy hx
   have hw : Sm i := by unfold Sm; omega
   have hb := he x (List.mem_of_getElem? hx)
   refine ⟨?_, fun s' h' => ?_⟩
   ·have hpl := v_hasPlaceFor ((t.take i, (x.path, ())), ()) (show (t.take i).length ≤ 2097152 by rw [List.length_take]; omega) hb.1 hI
    simp only [g22_58, jjB hi, cond_true, jju, hx, Option.bind_some, jJQ]
    rw [v_entryOk _ hb.1 hb.2]
    simp only [Option.bind_some, okAt, dgt0]
    cases entOk x with
    | false => rfl
    | true =>
     simp only [Bool.not_true, cond_false, Bool.true_and, lessAt]
     cases i with
     | zero =>
      have hsub : jqM t 0 0 = some (t.take 0) := jzq (b := 0) (Nat.zero_le _)
      have hsub : jqM t 0 ((0 : Nat) : Int) = some (t.take 0) := hsub
      simp only [beq_self_eq_true, Bool.not_true, cond_false, hsub, Option.bind_some, hpl, Bool.true_or, Bool.true_and]
      cases jzN (t.take 0) x.path with
      | false => rfl
      | true => simp only [Bool.not_true, cond_false, cond_true, jjk hw]; rfl
     | succ i =>
      have h0 : (i + 1 == 0) = false := rfl
      have hi' : i < t.length := by omega
      obtain ⟨q, hq⟩ : ∃ q, t[i]? = some q := ⟨t[i], List.getElem?_eq_getElem hi'⟩
      have hsub : jqM t 0 ((i + 1 : Nat) : Int) = some (t.take (i + 1)) := jzq (by omega)
      simp only [h0, Bool.not_false, cond_true, jzX (i := i) (by unfold Sm; omega), jju, hq, hx, Option.bind_some, Bool.false_or, Nat.add_sub_cancel]
      cases Op.bytesLess q.path x.path with
      | false => rfl
      | true =>
       simp only [Bool.not_true, cond_false, cond_true, hsub, Option.bind_some, hpl, Bool.true_and]
       cases jzN (t.take (i + 1)) x.path with
       | false => rfl
       | true => simp only [Bool.not_true, cond_false, cond_true, jjk hw]; rfl
   ·simp only [Option.some.injEq] at h'
    cases hq : (okAt t i x && jzN (t.take i) x.path) with
    | false => rw [hq] at h'; cases h'
    | true =>
     simp only [Bool.and_eq_true] at hq
     have := hq.1
     simp only [okAt, Bool.and_eq_true] at this
     exact asc_step hx hI this.2
  ·simp only [g22_58, jjC, cond_false]
 have h16 : decide ((t.length : Int) > 16) = !decide (t.length ≤ 16) := by by_cases h : t.length ≤ 16 <;> simp only [h, decide_true, decide_false, Bool.not_true, Bool.not_false, decide_eq_true_eq, decide_eq_false_iff_not] <;> omega
 simp only [f22, h16, key, Option.bind_some]
 rw [treeOk_eq]
 cases decide (t.length ≤ 16) <;> cases jqu (fun i e => okAt t i e && jzN (t.take i) e.path) 0 t <;> rfl
noncomputable def c100 : Ctx := { tt := tt, fs := fun n => match n with | 148 => some S148 | 151 => some S151 | 152 => some S152 | 153 => some S153 | _ => none }
theorem k100 (h : ∀ T, (tt T).ok Tryz.prog T) (h148 : jja Tryz.prog 148 S148) (h151 : jja Tryz.prog 151 S151) (h152 : jja Tryz.prog 152 S152) (h153 : jja Tryz.prog 153 S153) : CtxGood Tryz.prog c100 := ⟨⟨h⟩, fun g S hg => (by
 simp only [c100] at hg
 split at hg
 ·cases hg; exact h148
 ·cases hg; exact h151
 ·cases hg; exact h152
 ·cases hg; exact h153
 ·cases hg), jjq, fun _ _ h => (by cases h), fun _ h => (by cases h)⟩
noncomputable def b100 : Code := jjh Tryz.f100
@[reducible] noncomputable def i100 : Shape := ⟨[(0, .agg [.d (.str), .d (.str), .d (.sl .need), .d (.sl .entry)])], [], 23⟩
@[reducible] noncomputable def o100 : Shape := ⟨[(2, .lf (.d (.bool)))], [], 23⟩
noncomputable def f100 (a : i100.Y) : Option o100.Y :=
(f151 ((a.1.1.1, ()), ())).bind fun r900 =>
 bif r900.1.1 then
(f152 ((a.1.1.2.1, ()), ())).bind fun r901 =>
 bif r901.1.1 then
(f153 ((a.1.1.1, (a.1.1.2.2.1, ())), ())).bind fun r902 =>
 bif r902.1.1 then
(f148 ((a.1.1.2.2.2.1, ()), ())).bind fun r903 =>
 some ((r903.1.1, ()), ())
else
 some ((false, ()), ())
else
 some ((false, ()), ())
else
 some ((false, ()), ())
theorem e100 : ∀ a, f100 a = jjp (jjd c100 []) b100 i100 o100 a := fun a => by kernel_rfl
noncomputable def S100 : jjG := jjf tt 23 i100 o100 [.tmp 2] [] f100
theorem z100 (h : ∀ T, (tt T).ok Tryz.prog T) (h148 : jja Tryz.prog 148 S148) (h151 : jja Tryz.prog 151 S151) (h152 : jja Tryz.prog 152 S152) (h153 : jja Tryz.prog 153 S153) : jja Tryz.prog 100 S100 :=
 have H := k100 h h148 h151 h152 h153
 jjj (fn := Tryz.f100) (fr := []) H (by kernel_rfl) (by kernel_rfl) (by kernel_rfl) (by kernel_rfl) (by kernel_rfl) jje (by kernel_rfl) (fun y => ⟨_, _, rfl, rfl, rfl⟩) e100
noncomputable def c147 : Ctx := { tt := tt, fs := fun n => match n with | _ => none }
theorem k147 (h : ∀ T, (tt T).ok Tryz.prog T) : CtxGood Tryz.prog c147 := ⟨⟨h⟩, fun g S hg => (by cases hg), jjq, fun _ _ h => (by cases h), fun _ h => (by cases h)⟩
noncomputable def b147 : Code := jjh Tryz.f147
@[reducible] noncomputable def i147 : Shape := ⟨[(0, .lf (.d (.sl .entry)))], [], 6⟩
@[reducible] noncomputable def o147 : Shape := ⟨[(2, .lf (.own 3000128))], [(3000128, .row .entry, .slot 2 0)], 6⟩
noncomputable def f147 (a : i147.Y) : Option o147.Y :=
(apd 48 ([] : List Entry) a.1.1).bind fun x66 =>
 some (((), ()), (x66, ()))
theorem e147 : ∀ a, f147 a = jjp (jjd c147 []) b147 i147 o147 a := fun a => by kernel_rfl
noncomputable def S147 : jjG := jjf tt 6 i147 o147 [.tmp 2] [] f147
theorem z147 (h : ∀ T, (tt T).ok Tryz.prog T) : jja Tryz.prog 147 S147 :=
 have H := k147 h
 jjj (fn := Tryz.f147) (fr := []) H (by kernel_rfl) (by kernel_rfl) (by kernel_rfl) (by kernel_rfl) (by kernel_rfl) jje (by kernel_rfl) (fun y => ⟨_, _, rfl, rfl, rfl⟩) e147
noncomputable def c58 : Ctx := { tt := tt, fs := fun n => match n with | 22 => some S22 | 108 => some S108 | 109 => some S109 | 110 => some S110v0 | 112 => some S112v0 | _ => none }
theorem k58 (h : ∀ T, (tt T).ok Tryz.prog T) (h22 : jja Tryz.prog 22 S22) (h108 : jja Tryz.prog 108 S108) (h109 : jja Tryz.prog 109 S109) (h110v0 : jja Tryz.prog 110 S110v0) (h112v0 : jja Tryz.prog 112 S112v0) : CtxGood Tryz.prog c58 := ⟨⟨h⟩, fun g S hg => (by
 simp only [c58] at hg
 split at hg
 ·cases hg; exact h22
 ·cases hg; exact h108
 ·cases hg; exact h109
 ·cases hg; exact h110v0
 ·cases hg; exact h112v0
 ·cases hg), jjq, fun _ _ h => (by cases h), fun _ h => (by cases h)⟩
noncomputable def b58 : Code := jjh Tryz.f58
@[reducible] noncomputable def s58_12 : Shape := ⟨[(1, .lf (.ptr 1 0))], [(1, .box [.d (.str), .d (.str), .d (.sl .need), .d (.sl .entry)], .same)], 36⟩
@[reducible] noncomputable def t58_12 : List OSh := [(.norm, ⟨[(1, .lf (.ptr 1 0)), (18, .lf (.d (.bool)))], [(1, .box [.d (.str), .d (.str), .d (.sl .need), .d (.sl .entry)], .same)], 36⟩)]
noncomputable def g58_12 (y : s58_12.Y) : Option (YS t58_12) :=
(f108 ((y.2.1.1, ()), ())).bind fun r1442 =>
 bif (!(!r1442.1.1)) then
(f109 ((y.2.1.2.1, ()), ())).bind fun r1443 =>
 bif (!(!r1443.1.1)) then
 some ((((), ((decide ((y.2.1.2.2.1.length : Int) > (6 : Int))), ())), ((y.2.1.1, (y.2.1.2.1, (y.2.1.2.2.1, (y.2.1.2.2.2.1, ())))), ())))
else
 some ((((), (true, ())), ((y.2.1.1, (y.2.1.2.1, (y.2.1.2.2.1, (y.2.1.2.2.2.1, ())))), ())))
else
 some ((((), (true, ())), ((y.2.1.1, (y.2.1.2.1, (y.2.1.2.2.1, (y.2.1.2.2.2.1, ())))), ())))
theorem r58_12 : ∀ y, g58_12 y = jjM (jjd c58 []) (jjc b58 1 12) 12 s58_12 t58_12 y := fun y => by kernel_rfl
theorem q58_12 (H : CtxGood Tryz.prog c58) : jjn Tryz.prog (jjc b58 1 12) (jjb s58_12 t58_12 g58_12) :=
 jjv (fr := []) H (by kernel_rfl) jje r58_12
@[reducible] noncomputable def i58 : Shape := ⟨[(0, .agg [.d (.str), .d (.str), .d (.sl .need), .d (.sl .entry)])], [], 36⟩
@[reducible] noncomputable def o58 : Shape := ⟨[(2, .lf (.d (.bool)))], [], 36⟩
noncomputable def f58 (a : i58.Y) : Option o58.Y :=
(g58_12 (((), ()), ((a.1.1.1, (a.1.1.2.1, (a.1.1.2.2.1, (a.1.1.2.2.2.1, ())))), ()))).bind fun r1675 =>
 bif r1675.1.2.1 then
 some ((false, ()), ())
else
(f110v0 ((r1675.2.1.2.2.1, ((), ())), ())).bind fun r1676 =>
 bif r1676.1.1 then
(f112v0 ((r1675.2.1.2.2.1, ((), (([r1675.2.1.1] : List Str), ()))), ())).bind fun r1677 =>
 bif (!r1677.1.1) then
(f22 ((r1675.2.1.2.2.2.1, ()), ())).bind fun r1678 =>
 some ((r1678.1.1, ()), ())
else
 some ((false, ()), ())
else
 some ((false, ()), ())
theorem e58 : ∀ a, f58 a = jjp (jjd c58 [(12, jjb s58_12 t58_12 g58_12)]) b58 i58 o58 a := fun a => by kernel_rfl
noncomputable def S58 : jjG := jjf tt 36 i58 o58 [.tmp 2] [] f58
theorem z58 (h : ∀ T, (tt T).ok Tryz.prog T) (h22 : jja Tryz.prog 22 S22) (h108 : jja Tryz.prog 108 S108) (h109 : jja Tryz.prog 109 S109) (h110v0 : jja Tryz.prog 110 S110v0) (h112v0 : jja Tryz.prog 112 S112v0) : jja Tryz.prog 58 S58 :=
 have H := k58 h h22 h108 h109 h110v0 h112v0
 jjj (fn := Tryz.f58) (fr := [(12, jjb s58_12 t58_12 g58_12)]) H (by kernel_rfl) (by kernel_rfl) (by kernel_rfl) (by kernel_rfl) (by kernel_rfl) ⟨q58_12 H, trivial⟩ (by kernel_rfl) (fun y => ⟨_, _, rfl, rfl, rfl⟩) e58
noncomputable def c92 : Ctx := { tt := tt, fs := fun n => match n with | 57 => some S57 | 147 => some S147 | 148 => some S148 | _ => none }
theorem k92 (h : ∀ T, (tt T).ok Tryz.prog T) (h57 : jja Tryz.prog 57 S57) (h147 : jja Tryz.prog 147 S147) (h148 : jja Tryz.prog 148 S148) : CtxGood Tryz.prog c92 := ⟨⟨h⟩, fun g S hg => (by
 simp only [c92] at hg
 split at hg
 ·cases hg; exact h57
 ·cases hg; exact h147
 ·cases hg; exact h148
 ·cases hg), jjq, fun _ _ h => (by cases h), fun _ h => (by cases h)⟩
noncomputable def b92 : Code := jjh Tryz.f92
@[reducible] noncomputable def s92_7460 : Shape := ⟨[(1, .lf (.d (.sl .entry))), (6, .lf (.own 3000384)), (7, .lf (.d (.int .i64))), (8, .lf (.d (.int .i64))), (9, .lf (.d (.bool)))], [(3000384, .row .entry, .slot 6 0)], 69⟩
@[reducible] noncomputable def t92_7460 : List OSh := [(.norm, ⟨[(1, .lf (.d (.sl .entry))), (6, .lf (.own 3000384)), (7, .lf (.d (.int .i64))), (8, .lf (.d (.int .i64))), (9, .lf (.d (.bool))), (28, .lf (.d (.bool))), (29, .lf (.d (.bool))), (47, .lf (.d (.bool)))], [(3000384, .row .entry, .slot 6 0)], 69⟩)]
noncomputable def jJP (y : s92_7460.Y) : Option (YS t92_7460) :=
 bif y.1.2.2.2.2.1 then
(inb y.2.1.length y.1.2.2.2.1).bind fun x986 =>
(y.2.1[x986]?).bind fun x987 =>
 bif (x987.kind != (1 : Int)) then
 some (((y.1.1, ((), (y.1.2.2.1, (y.1.2.2.2.1, (y.1.2.2.2.2.1, (y.1.2.2.2.2.1, (true, (true, ())))))))), (y.2.1, ())))
else
(ix y.1.1 y.1.2.2.1).bind fun x988 =>
(inb y.2.1.length y.1.2.2.2.1).bind fun x989 =>
(y.2.1[x989]?).bind fun x990 =>
 some (((y.1.1, ((), (y.1.2.2.1, (y.1.2.2.2.1, (y.1.2.2.2.2.1, (y.1.2.2.2.2.1, (true, ((!((x988.path == x990.path) && ((x988.kind == x990.kind) && ((x988.mode == x990.mode) && (x988.text == x990.text))))), ())))))))), (y.2.1, ())))
else
 some (((y.1.1, ((), (y.1.2.2.1, (y.1.2.2.2.1, (y.1.2.2.2.2.1, (y.1.2.2.2.2.1, (false, (false, ())))))))), (y.2.1, ())))
theorem r92_7460 : ∀ y, jJP y = jjM (jjd c92 []) (jjc (jjl (jjc b92 1 58)) 116 7460) 7460 s92_7460 t92_7460 y := fun y => by kernel_rfl
theorem q92_7460 (H : CtxGood Tryz.prog c92) : jjn Tryz.prog (jjc (jjl (jjc b92 1 58)) 116 7460) (jjb s92_7460 t92_7460 jJP) :=
 jjv (fr := []) H (by kernel_rfl) jje r92_7460
@[reducible] noncomputable def s92_58 : Shape := ⟨[(1, .lf (.d (.sl .entry))), (6, .lf (.own 3000384)), (7, .lf (.d (.int .i64)))], [(3000384, .row .entry, .slot 6 0)], 69⟩
@[reducible] noncomputable def jz1 : List OSh := [(.ret, ⟨[(4, .lf (.own 3000256)), (5, .lf (.d (.bool)))], [(3000256, .row .entry, .slot 4 0)], 69⟩), (.exit 0, ⟨[(6, .lf (.own 3000384))], [(3000384, .row .entry, .slot 6 0)], 69⟩)]
noncomputable def g92_58 (y : s92_58.Y) : Option (Sum s92_58.Y (YS jz1)) :=
 bif (decide (y.1.2.2.1 < (y.1.1.length : Int))) then
(ix y.1.1 y.1.2.2.1).bind fun x1001 =>
(f57 ((y.2.1, (x1001.path, ())), ())).bind fun r1002 =>
(jJP ((y.1.1, ((), (y.1.2.2.1, (r1002.1.1, (r1002.1.2.1, ()))))), (y.2.1, ()))).bind fun r1004 =>
 bif r1004.1.2.2.2.2.2.2.2.1 then
 some (.inr (.inl (((), (false, ())), (([] : List Entry), ()))))
else
 bif (!r1004.1.2.2.2.2.1) then
(jqM r1004.2.1 (0 : Int) r1004.1.2.2.2.1).bind fun x1005 =>
(apd 48 ([] : List Entry) x1005).bind fun x1006 =>
(ix r1004.1.1 r1004.1.2.2.1).bind fun x1007 =>
(apd 48 x1006 ([x1007] : List Entry)).bind fun x1008 =>
(jqM r1004.2.1 r1004.1.2.2.2.1 (r1004.2.1.length : Int)).bind fun x1009 =>
(apd 48 x1008 x1009).bind fun x1010 =>
 some (.inl ((r1004.1.1, ((), ((IntKind.i64.wrap (r1004.1.2.2.1 + (1 : Int))), ()))), (x1010, ())))
else
 some (.inl ((r1004.1.1, ((), ((IntKind.i64.wrap (r1004.1.2.2.1 + (1 : Int))), ()))), (r1004.2.1, ())))
else
 some (.inr (.inr (((), ()), (y.2.1, ()))))
theorem r92_58 : ∀ y, g92_58 y = jjz (jjd c92 [(7460, jjb s92_7460 t92_7460 jJP)]) (jjl (jjc b92 1 58)) 58 s92_58 jz1 y := fun y => by kernel_rfl
noncomputable def l92_58 : s92_58.Y → Option (YS jz1) := jjD g92_58
theorem q92_58 (H : CtxGood Tryz.prog c92) : jjn Tryz.prog (jjc b92 1 58) (jjb s92_58 jz1 l92_58) :=
 jjt (fr := [(7460, jjb s92_7460 t92_7460 jJP)]) H (by kernel_rfl) (by kernel_rfl) ⟨q92_7460 H, trivial⟩ (fun y => jji r92_58 y)
@[reducible] noncomputable def i92 : Shape := ⟨[(0, .lf (.d (.sl .entry))), (1, .lf (.d (.sl .entry)))], [], 69⟩
@[reducible] noncomputable def o92 : Shape := ⟨[(4, .lf (.own 3000256)), (5, .lf (.d (.bool)))], [(3000256, .row .entry, .slot 4 0)], 69⟩
noncomputable def f92 (a : i92.Y) : Option o92.Y :=
(f147 ((a.1.1, ()), ())).bind fun r1019 =>
(l92_58 ((a.1.2.1, ((), ((0 : Int), ()))), (r1019.2.1, ()))).bind fun r1023 =>
(match r1023 with
| .inl r1024 =>
 some (((), (r1024.1.2.1, ())), (r1024.2.1, ()))
| .inr r1025 =>
(f148 ((r1025.2.1, ()), ())).bind fun r1026 =>
 some (((), (r1026.1.1, ())), (r1025.2.1, ())))
theorem e92 : ∀ a, f92 a = jjp (jjd c92 [(58, jjb s92_58 jz1 l92_58)]) b92 i92 o92 a := fun a => by kernel_rfl
noncomputable def S92 : jjG := jjf tt 69 i92 o92 [.tmp 4, .tmp 5] [] f92
theorem z92 (h : ∀ T, (tt T).ok Tryz.prog T) (h57 : jja Tryz.prog 57 S57) (h147 : jja Tryz.prog 147 S147) (h148 : jja Tryz.prog 148 S148) : jja Tryz.prog 92 S92 :=
 have H := k92 h h57 h147 h148
 jjj (fn := Tryz.f92) (fr := [(58, jjb s92_58 jz1 l92_58)]) H (by kernel_rfl) (by kernel_rfl) (by kernel_rfl) (by kernel_rfl) (by kernel_rfl) ⟨q92_58 H, trivial⟩ (by kernel_rfl) (fun y => ⟨_, _, rfl, rfl, rfl⟩) e92
end Go.Proofs
