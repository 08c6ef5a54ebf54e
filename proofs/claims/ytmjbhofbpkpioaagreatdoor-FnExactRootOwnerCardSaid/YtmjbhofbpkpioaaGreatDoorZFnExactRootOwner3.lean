/- It is proved that the program's RootOwner returns what the reference's returns, for all arguments (FnExactRootOwner). (part 4 of 6: JkTy, JkF110, JkF138, JkF142, JkF77, JkF84, JkPuA, JkF141, JkPuB, JkF106, JkF111, JkF85, JkF143, JkF78, JkF80, JkPuC, JkF107, JkF139, JkF108, JkF112, JkF53, JkF79v0, JkF82, JkF81v0, JkF86, JkPuD, JkF1) Conditions: none beyond the statement. -/
import Derived.Test.YtmjbhofbpkpioaaGreatDoorZFnExactRootOwner2
import Derived.Tactics
import Derived.Deep.RegionLaw
import Derived.Shelf.Abstract
import Derived.Test.YtmjbhofbpkpioaaGreatDoorProg
import Derived.KernelRfl
set_option maxRecDepth 100000
set_option linter.unusedVariables false
namespace Go.Proofs
open Go.Jk
noncomputable def flds (P : Program) (t : TypeId) : Array Field := match P.underlying t with | some (.struct f) => f | _ => #[]
noncomputable def fps (P : Program) (t : TypeId) : Array TypeId := match P.underlying t with | some (.func a _ _) => a | _ => #[]
noncomputable def frs (P : Program) (t : TypeId) : Array TypeId := match P.underlying t with | some (.func _ b _) => b | _ => #[]
noncomputable def fvr (P : Program) (t : TypeId) : Bool := match P.underlying t with | some (.func _ _ v) => v | _ => false
noncomputable def ttL : List (Nat × TI) := [(1, .func),
  (2, .int .i64),
  (3, .int .i64),
  (4, .bool),
  (5, .int .u8),
  (6, .int .u8),
  (7, .struct [(0, 1), (1, 1), (2, 1), (3, 1)] 4 [.d (.int .i64 0), .d (.int .i64 0), .d (.bool false), .d (.int .u8 0)] false),
  (8, .struct [(0, 1), (1, 1), (2, 1), (3, 1)] 4 [.d (.int .i64 0), .d (.int .i64 0), .d (.bool false), .d (.int .u8 0)] false),
  (9, .str),
  (10, .str),
  (11, .str),
  (12, .int .u64),
  (13, .struct [(0, 1), (1, 1)] 2 [.d (.str []), .d (.int .u64 0)] false),
  (14, .struct [(0, 1), (1, 1)] 2 [.d (.str []), .d (.int .u64 0)] false),
  (15, .ptr),
  (16, .ptr),
  (17, .ptr),
  (18, .struct [(0, 1)] 1 [.cst (.pointer none)] false),
  (19, .struct [(0, 1)] 1 [.cst (.pointer none)] false),
  (21, .int .i32),
  (22, .slice 5 .u8 1),
  (23, .slice 35 .pack 80),
  (24, .slice 9 .str 16),
  (26, .func),
  (28, .func),
  (29, .func),
  (30, .func),
  (31, .func),
  (32, .slice 37 .need 40),
  (33, .slice 74 .entry 48),
  (34, .struct [(0, 1), (1, 1), (2, 1), (3, 1)] 4 [.d (.str []), .d (.str []), .nil .need, .nil .entry] false),
  (35, .struct [(0, 1), (1, 1), (2, 1), (3, 1)] 4 [.d (.str []), .d (.str []), .nil .need, .nil .entry] false),
  (36, .struct [(0, 1), (1, 1), (2, 1)] 3 [.d (.str []), .d (.int .i64 0), .d (.str [])] false),
  (37, .struct [(0, 1), (1, 1), (2, 1)] 3 [.d (.str []), .d (.int .i64 0), .d (.str [])] true),
  (38, .slice 96 .pack 80),
  (39, .struct [(0, 1)] 1 [.nil .pack] false),
  (40, .struct [(0, 1)] 1 [.nil .pack] false),
  (41, .func),
  (42, .func),
  (43, .struct [(0, 1)] 1 [.nil .pack] false),
  (44, .struct [(0, 1)] 1 [.nil .pack] false),
  (45, .func),
  (46, .func),
  (47, .func),
  (48, .func),
  (49, .func),
  (50, .func),
  (51, .func),
  (52, .func),
  (53, .func),
  (54, .ptr),
  (55, .func),
  (56, .func),
  (57, .func),
  (58, .func),
  (61, .func),
  (62, .slice 3 .i64 8),
  (65, .func),
  (66, .func),
  (67, .func),
  (68, .func),
  (69, .func),
  (70, .func),
  (72, .func),
  (73, .struct [(0, 1), (1, 1), (2, 1), (3, 1)] 4 [.d (.str []), .d (.int .i64 0), .d (.int .i64 0), .d (.str [])] false),
  (74, .struct [(0, 1), (1, 1), (2, 1), (3, 1)] 4 [.d (.str []), .d (.int .i64 0), .d (.int .i64 0), .d (.str [])] true),
  (76, .func),
  (78, .func),
  (79, .func),
  (80, .func),
  (81, .func),
  (82, .struct [(0, 1), (1, 1)] 2 [.nil .u8, .d (.int .i64 0)] false),
  (83, .struct [(0, 1), (1, 1)] 2 [.nil .u8, .d (.int .i64 0)] false),
  (84, .func),
  (85, .func),
  (86, .func),
  (87, .func),
  (88, .ptr),
  (89, .func),
  (90, .func),
  (91, .func),
  (92, .func),
  (93, .slice 140 .need 40),
  (94, .slice 142 .entry 48),
  (95, .struct [(0, 1), (1, 1), (2, 1), (3, 1)] 4 [.d (.str []), .d (.str []), .nil .need, .nil .entry] false),
  (96, .struct [(0, 1), (1, 1), (2, 1), (3, 1)] 4 [.d (.str []), .d (.str []), .nil .need, .nil .entry] false),
  (97, .func),
  (98, .func),
  (99, .func),
  (101, .func),
  (102, .func),
  (103, .func),
  (104, .func),
  (105, .func),
  (106, .func),
  (107, .func),
  (108, .func),
  (109, .func),
  (110, .func),
  (111, .func),
  (112, .func),
  (113, .func),
  (114, .func),
  (115, .func),
  (116, .func),
  (117, .func),
  (118, .func),
  (119, .func),
  (120, .func),
  (121, .func),
  (122, .func),
  (123, .func),
  (124, .func),
  (125, .func),
  (126, .func),
  (127, .func),
  (128, .slice 3 .i64 8),
  (130, .func),
  (131, .func),
  (132, .func),
  (133, .func),
  (135, .func),
  (136, .func),
  (137, .func),
  (138, .func),
  (139, .func),
  (140, .struct [(0, 1), (1, 1), (2, 1)] 3 [.d (.str []), .d (.int .i64 0), .d (.str [])] true),
  (141, .func),
  (142, .struct [(0, 1), (1, 1), (2, 1), (3, 1)] 4 [.d (.str []), .d (.int .i64 0), .d (.int .i64 0), .d (.str [])] true),
  (143, .func),
  (144, .func),
  (145, .func),
  (146, .func),
  (147, .int .u64),
  (148, .func),
  (149, .func),
  (150, .func),
  (151, .func),
  (152, .func),
  (153, .func),
  (154, .func),
  (155, .func),
  (156, .func),
  (157, .func),
  (158, .func),
  (159, .func),
  (160, .func),
  (161, .func),
  (162, .func),
  (163, .func),
  (164, .func),
  (165, .func),
  (167, .func),
  (168, .func),
  (169, .func),
  (171, .struct [(0, 1), (1, 1)] 2 [.d (.int .u8 0), .d (.int .u8 0)] false),
  (172, .struct [(0, 1), (1, 1)] 2 [.d (.int .u8 0), .d (.int .u8 0)] false),
  (174, .int .u32),
  (176, .func),
  (177, .func),
  (178, .struct [(0, 1), (1, 1), (2, 1), (3, 1)] 4 [.cst (.pointer none), .cst (.pointer none), .cst (.pointer none), .d (.str [])] false),
  (179, .struct [(0, 1), (1, 1), (2, 1), (3, 1)] 4 [.cst (.pointer none), .cst (.pointer none), .cst (.pointer none), .d (.str [])] false),
  (183, .int .u8),
  (184, .int .u8),
  (185, .func),
  (186, .ptr),
  (187, .int .i32),
  (188, .int .i32),
  (189, .struct [(0, 1), (1, 1), (2, 1), (3, 1), (4, 1), (5, 1), (6, 1), (7, 1), (8, 1), (9, 1), (10, 1)] 11 [.d (.int .u64 0), .d (.int .u64 0), .d (.int .u32 0), .d (.int .u8 0), .d (.int .u8 0), .d (.int .u8 0), .d (.int .u8 0), .cst .nilFunc, .cst (.pointer none), .d (.int .i32 0), .d (.int .i32 0)] false),
  (190, .struct [(0, 1), (1, 1), (2, 1), (3, 1), (4, 1), (5, 1), (6, 1), (7, 1), (8, 1), (9, 1), (10, 1)] 11 [.d (.int .u64 0), .d (.int .u64 0), .d (.int .u32 0), .d (.int .u8 0), .d (.int .u8 0), .d (.int .u8 0), .d (.int .u8 0), .cst .nilFunc, .cst (.pointer none), .d (.int .i32 0), .d (.int .i32 0)] false)]
noncomputable def tt : TypeId → TI := tyAt ttL
theorem ty1 : (.func : TI).ok Tryz.prog 1 := ⟨fps Tryz.prog 1, frs Tryz.prog 1, fvr Tryz.prog 1, ⟨(by kernel_rfl), (fun _ h => by cases h), (fun _ _ h => by cases h), (by kernel_rfl)⟩⟩
theorem ty2 : (.int .i64 : TI).ok Tryz.prog 2 := ⟨(by kernel_rfl), (fun _ h => by cases h), (fun _ _ h => by cases h), (by kernel_rfl)⟩
theorem ty3 : (.int .i64 : TI).ok Tryz.prog 3 := ⟨(by kernel_rfl), (fun _ h => by cases h), (fun _ _ h => by cases h), (by kernel_rfl)⟩
theorem ty4 : (.bool : TI).ok Tryz.prog 4 := ⟨(by kernel_rfl), (fun _ h => by cases h), (fun _ _ h => by cases h), (by kernel_rfl)⟩
theorem ty5 : (.int .u8 : TI).ok Tryz.prog 5 := ⟨(by kernel_rfl), (fun _ h => by cases h), (fun _ _ h => by cases h), (by kernel_rfl)⟩
theorem ty6 : (.int .u8 : TI).ok Tryz.prog 6 := ⟨(by kernel_rfl), (fun _ h => by cases h), (fun _ _ h => by cases h), (by kernel_rfl)⟩
theorem ty9 : (.str : TI).ok Tryz.prog 9 := ⟨(by kernel_rfl), (fun _ h => by cases h), (fun _ _ h => by cases h), (by kernel_rfl)⟩
theorem ty10 : (.str : TI).ok Tryz.prog 10 := ⟨(by kernel_rfl), (fun _ h => by cases h), (fun _ _ h => by cases h), (by kernel_rfl)⟩
theorem ty11 : (.str : TI).ok Tryz.prog 11 := ⟨(by kernel_rfl), (fun _ h => by cases h), (fun _ _ h => by cases h), (by kernel_rfl)⟩
theorem ty12 : (.int .u64 : TI).ok Tryz.prog 12 := ⟨(by kernel_rfl), (fun _ h => by cases h), (fun _ _ h => by cases h), (by kernel_rfl)⟩
theorem ty15 : (.ptr : TI).ok Tryz.prog 15 := ⟨179, ⟨(by kernel_rfl), (fun _ h => by cases h), (fun _ _ h => by cases h), (by kernel_rfl)⟩⟩
theorem ty16 : (.ptr : TI).ok Tryz.prog 16 := ⟨182, ⟨(by kernel_rfl), (fun _ h => by cases h), (fun _ _ h => by cases h), (by kernel_rfl)⟩⟩
theorem ty17 : (.ptr : TI).ok Tryz.prog 17 := ⟨190, ⟨(by kernel_rfl), (fun _ h => by cases h), (fun _ _ h => by cases h), (by kernel_rfl)⟩⟩
theorem ty21 : (.int .i32 : TI).ok Tryz.prog 21 := ⟨(by kernel_rfl), (fun _ h => by cases h), (fun _ _ h => by cases h), (by kernel_rfl)⟩
theorem ty22 : (.slice 5 .u8 1 : TI).ok Tryz.prog 22 := ⟨⟨(by kernel_rfl), (fun _ h => by cases h), (fun _ _ h => by cases h), (by kernel_rfl)⟩, .int .u8 0, (by kernel_rfl), rfl⟩
theorem ty23 : (.slice 35 .pack 80 : TI).ok Tryz.prog 23 := ⟨⟨(by kernel_rfl), (fun _ h => by cases h), (fun _ _ h => by cases h), (by kernel_rfl)⟩, .agg #[.string ⟨#[]⟩, .string ⟨#[]⟩, .slice none 0 0, .slice none 0 0], (by kernel_rfl), rfl⟩
theorem ty24 : (.slice 9 .str 16 : TI).ok Tryz.prog 24 := ⟨⟨(by kernel_rfl), (fun _ h => by cases h), (fun _ _ h => by cases h), (by kernel_rfl)⟩, .string ⟨#[]⟩, (by kernel_rfl), rfl⟩
theorem ty26 : (.func : TI).ok Tryz.prog 26 := ⟨fps Tryz.prog 26, frs Tryz.prog 26, fvr Tryz.prog 26, ⟨(by kernel_rfl), (fun _ h => by cases h), (fun _ _ h => by cases h), (by kernel_rfl)⟩⟩
theorem ty28 : (.func : TI).ok Tryz.prog 28 := ⟨fps Tryz.prog 28, frs Tryz.prog 28, fvr Tryz.prog 28, ⟨(by kernel_rfl), (fun _ h => by cases h), (fun _ _ h => by cases h), (by kernel_rfl)⟩⟩
theorem ty29 : (.func : TI).ok Tryz.prog 29 := ⟨fps Tryz.prog 29, frs Tryz.prog 29, fvr Tryz.prog 29, ⟨(by kernel_rfl), (fun _ h => by cases h), (fun _ _ h => by cases h), (by kernel_rfl)⟩⟩
theorem ty30 : (.func : TI).ok Tryz.prog 30 := ⟨fps Tryz.prog 30, frs Tryz.prog 30, fvr Tryz.prog 30, ⟨(by kernel_rfl), (fun _ h => by cases h), (fun _ _ h => by cases h), (by kernel_rfl)⟩⟩
theorem ty31 : (.func : TI).ok Tryz.prog 31 := ⟨fps Tryz.prog 31, frs Tryz.prog 31, fvr Tryz.prog 31, ⟨(by kernel_rfl), (fun _ h => by cases h), (fun _ _ h => by cases h), (by kernel_rfl)⟩⟩
theorem ty32 : (.slice 37 .need 40 : TI).ok Tryz.prog 32 := ⟨⟨(by kernel_rfl), (fun _ h => by cases h), (fun _ _ h => by cases h), (by kernel_rfl)⟩, .agg #[.string ⟨#[]⟩, .int .i64 0, .string ⟨#[]⟩], (by kernel_rfl), rfl⟩
theorem ty33 : (.slice 74 .entry 48 : TI).ok Tryz.prog 33 := ⟨⟨(by kernel_rfl), (fun _ h => by cases h), (fun _ _ h => by cases h), (by kernel_rfl)⟩, .agg #[.string ⟨#[]⟩, .int .i64 0, .int .i64 0, .string ⟨#[]⟩], (by kernel_rfl), rfl⟩
theorem ty38 : (.slice 96 .pack 80 : TI).ok Tryz.prog 38 := ⟨⟨(by kernel_rfl), (fun _ h => by cases h), (fun _ _ h => by cases h), (by kernel_rfl)⟩, .agg #[.string ⟨#[]⟩, .string ⟨#[]⟩, .slice none 0 0, .slice none 0 0], (by kernel_rfl), rfl⟩
theorem ty41 : (.func : TI).ok Tryz.prog 41 := ⟨fps Tryz.prog 41, frs Tryz.prog 41, fvr Tryz.prog 41, ⟨(by kernel_rfl), (fun _ h => by cases h), (fun _ _ h => by cases h), (by kernel_rfl)⟩⟩
theorem ty42 : (.func : TI).ok Tryz.prog 42 := ⟨fps Tryz.prog 42, frs Tryz.prog 42, fvr Tryz.prog 42, ⟨(by kernel_rfl), (fun _ h => by cases h), (fun _ _ h => by cases h), (by kernel_rfl)⟩⟩
theorem ty45 : (.func : TI).ok Tryz.prog 45 := ⟨fps Tryz.prog 45, frs Tryz.prog 45, fvr Tryz.prog 45, ⟨(by kernel_rfl), (fun _ h => by cases h), (fun _ _ h => by cases h), (by kernel_rfl)⟩⟩
theorem ty46 : (.func : TI).ok Tryz.prog 46 := ⟨fps Tryz.prog 46, frs Tryz.prog 46, fvr Tryz.prog 46, ⟨(by kernel_rfl), (fun _ h => by cases h), (fun _ _ h => by cases h), (by kernel_rfl)⟩⟩
theorem ty47 : (.func : TI).ok Tryz.prog 47 := ⟨fps Tryz.prog 47, frs Tryz.prog 47, fvr Tryz.prog 47, ⟨(by kernel_rfl), (fun _ h => by cases h), (fun _ _ h => by cases h), (by kernel_rfl)⟩⟩
theorem ty48 : (.func : TI).ok Tryz.prog 48 := ⟨fps Tryz.prog 48, frs Tryz.prog 48, fvr Tryz.prog 48, ⟨(by kernel_rfl), (fun _ h => by cases h), (fun _ _ h => by cases h), (by kernel_rfl)⟩⟩
theorem ty49 : (.func : TI).ok Tryz.prog 49 := ⟨fps Tryz.prog 49, frs Tryz.prog 49, fvr Tryz.prog 49, ⟨(by kernel_rfl), (fun _ h => by cases h), (fun _ _ h => by cases h), (by kernel_rfl)⟩⟩
theorem ty50 : (.func : TI).ok Tryz.prog 50 := ⟨fps Tryz.prog 50, frs Tryz.prog 50, fvr Tryz.prog 50, ⟨(by kernel_rfl), (fun _ h => by cases h), (fun _ _ h => by cases h), (by kernel_rfl)⟩⟩
theorem ty51 : (.func : TI).ok Tryz.prog 51 := ⟨fps Tryz.prog 51, frs Tryz.prog 51, fvr Tryz.prog 51, ⟨(by kernel_rfl), (fun _ h => by cases h), (fun _ _ h => by cases h), (by kernel_rfl)⟩⟩
theorem ty52 : (.func : TI).ok Tryz.prog 52 := ⟨fps Tryz.prog 52, frs Tryz.prog 52, fvr Tryz.prog 52, ⟨(by kernel_rfl), (fun _ h => by cases h), (fun _ _ h => by cases h), (by kernel_rfl)⟩⟩
theorem ty53 : (.func : TI).ok Tryz.prog 53 := ⟨fps Tryz.prog 53, frs Tryz.prog 53, fvr Tryz.prog 53, ⟨(by kernel_rfl), (fun _ h => by cases h), (fun _ _ h => by cases h), (by kernel_rfl)⟩⟩
theorem ty54 : (.ptr : TI).ok Tryz.prog 54 := ⟨83, ⟨(by kernel_rfl), (fun _ h => by cases h), (fun _ _ h => by cases h), (by kernel_rfl)⟩⟩
theorem ty55 : (.func : TI).ok Tryz.prog 55 := ⟨fps Tryz.prog 55, frs Tryz.prog 55, fvr Tryz.prog 55, ⟨(by kernel_rfl), (fun _ h => by cases h), (fun _ _ h => by cases h), (by kernel_rfl)⟩⟩
theorem ty56 : (.func : TI).ok Tryz.prog 56 := ⟨fps Tryz.prog 56, frs Tryz.prog 56, fvr Tryz.prog 56, ⟨(by kernel_rfl), (fun _ h => by cases h), (fun _ _ h => by cases h), (by kernel_rfl)⟩⟩
theorem ty57 : (.func : TI).ok Tryz.prog 57 := ⟨fps Tryz.prog 57, frs Tryz.prog 57, fvr Tryz.prog 57, ⟨(by kernel_rfl), (fun _ h => by cases h), (fun _ _ h => by cases h), (by kernel_rfl)⟩⟩
theorem ty58 : (.func : TI).ok Tryz.prog 58 := ⟨fps Tryz.prog 58, frs Tryz.prog 58, fvr Tryz.prog 58, ⟨(by kernel_rfl), (fun _ h => by cases h), (fun _ _ h => by cases h), (by kernel_rfl)⟩⟩
theorem ty61 : (.func : TI).ok Tryz.prog 61 := ⟨fps Tryz.prog 61, frs Tryz.prog 61, fvr Tryz.prog 61, ⟨(by kernel_rfl), (fun _ h => by cases h), (fun _ _ h => by cases h), (by kernel_rfl)⟩⟩
theorem ty62 : (.slice 3 .i64 8 : TI).ok Tryz.prog 62 := ⟨⟨(by kernel_rfl), (fun _ h => by cases h), (fun _ _ h => by cases h), (by kernel_rfl)⟩, .int .i64 0, (by kernel_rfl), rfl⟩
theorem ty65 : (.func : TI).ok Tryz.prog 65 := ⟨fps Tryz.prog 65, frs Tryz.prog 65, fvr Tryz.prog 65, ⟨(by kernel_rfl), (fun _ h => by cases h), (fun _ _ h => by cases h), (by kernel_rfl)⟩⟩
theorem ty66 : (.func : TI).ok Tryz.prog 66 := ⟨fps Tryz.prog 66, frs Tryz.prog 66, fvr Tryz.prog 66, ⟨(by kernel_rfl), (fun _ h => by cases h), (fun _ _ h => by cases h), (by kernel_rfl)⟩⟩
theorem ty67 : (.func : TI).ok Tryz.prog 67 := ⟨fps Tryz.prog 67, frs Tryz.prog 67, fvr Tryz.prog 67, ⟨(by kernel_rfl), (fun _ h => by cases h), (fun _ _ h => by cases h), (by kernel_rfl)⟩⟩
theorem ty68 : (.func : TI).ok Tryz.prog 68 := ⟨fps Tryz.prog 68, frs Tryz.prog 68, fvr Tryz.prog 68, ⟨(by kernel_rfl), (fun _ h => by cases h), (fun _ _ h => by cases h), (by kernel_rfl)⟩⟩
theorem ty69 : (.func : TI).ok Tryz.prog 69 := ⟨fps Tryz.prog 69, frs Tryz.prog 69, fvr Tryz.prog 69, ⟨(by kernel_rfl), (fun _ h => by cases h), (fun _ _ h => by cases h), (by kernel_rfl)⟩⟩
theorem ty70 : (.func : TI).ok Tryz.prog 70 := ⟨fps Tryz.prog 70, frs Tryz.prog 70, fvr Tryz.prog 70, ⟨(by kernel_rfl), (fun _ h => by cases h), (fun _ _ h => by cases h), (by kernel_rfl)⟩⟩
theorem ty72 : (.func : TI).ok Tryz.prog 72 := ⟨fps Tryz.prog 72, frs Tryz.prog 72, fvr Tryz.prog 72, ⟨(by kernel_rfl), (fun _ h => by cases h), (fun _ _ h => by cases h), (by kernel_rfl)⟩⟩
theorem ty76 : (.func : TI).ok Tryz.prog 76 := ⟨fps Tryz.prog 76, frs Tryz.prog 76, fvr Tryz.prog 76, ⟨(by kernel_rfl), (fun _ h => by cases h), (fun _ _ h => by cases h), (by kernel_rfl)⟩⟩
theorem ty78 : (.func : TI).ok Tryz.prog 78 := ⟨fps Tryz.prog 78, frs Tryz.prog 78, fvr Tryz.prog 78, ⟨(by kernel_rfl), (fun _ h => by cases h), (fun _ _ h => by cases h), (by kernel_rfl)⟩⟩
theorem ty79 : (.func : TI).ok Tryz.prog 79 := ⟨fps Tryz.prog 79, frs Tryz.prog 79, fvr Tryz.prog 79, ⟨(by kernel_rfl), (fun _ h => by cases h), (fun _ _ h => by cases h), (by kernel_rfl)⟩⟩
theorem ty80 : (.func : TI).ok Tryz.prog 80 := ⟨fps Tryz.prog 80, frs Tryz.prog 80, fvr Tryz.prog 80, ⟨(by kernel_rfl), (fun _ h => by cases h), (fun _ _ h => by cases h), (by kernel_rfl)⟩⟩
theorem ty81 : (.func : TI).ok Tryz.prog 81 := ⟨fps Tryz.prog 81, frs Tryz.prog 81, fvr Tryz.prog 81, ⟨(by kernel_rfl), (fun _ h => by cases h), (fun _ _ h => by cases h), (by kernel_rfl)⟩⟩
theorem ty84 : (.func : TI).ok Tryz.prog 84 := ⟨fps Tryz.prog 84, frs Tryz.prog 84, fvr Tryz.prog 84, ⟨(by kernel_rfl), (fun _ h => by cases h), (fun _ _ h => by cases h), (by kernel_rfl)⟩⟩
theorem ty85 : (.func : TI).ok Tryz.prog 85 := ⟨fps Tryz.prog 85, frs Tryz.prog 85, fvr Tryz.prog 85, ⟨(by kernel_rfl), (fun _ h => by cases h), (fun _ _ h => by cases h), (by kernel_rfl)⟩⟩
theorem ty86 : (.func : TI).ok Tryz.prog 86 := ⟨fps Tryz.prog 86, frs Tryz.prog 86, fvr Tryz.prog 86, ⟨(by kernel_rfl), (fun _ h => by cases h), (fun _ _ h => by cases h), (by kernel_rfl)⟩⟩
theorem ty87 : (.func : TI).ok Tryz.prog 87 := ⟨fps Tryz.prog 87, frs Tryz.prog 87, fvr Tryz.prog 87, ⟨(by kernel_rfl), (fun _ h => by cases h), (fun _ _ h => by cases h), (by kernel_rfl)⟩⟩
theorem ty88 : (.ptr : TI).ok Tryz.prog 88 := ⟨64, ⟨(by kernel_rfl), (fun _ h => by cases h), (fun _ _ h => by cases h), (by kernel_rfl)⟩⟩
theorem ty89 : (.func : TI).ok Tryz.prog 89 := ⟨fps Tryz.prog 89, frs Tryz.prog 89, fvr Tryz.prog 89, ⟨(by kernel_rfl), (fun _ h => by cases h), (fun _ _ h => by cases h), (by kernel_rfl)⟩⟩
theorem ty90 : (.func : TI).ok Tryz.prog 90 := ⟨fps Tryz.prog 90, frs Tryz.prog 90, fvr Tryz.prog 90, ⟨(by kernel_rfl), (fun _ h => by cases h), (fun _ _ h => by cases h), (by kernel_rfl)⟩⟩
theorem ty91 : (.func : TI).ok Tryz.prog 91 := ⟨fps Tryz.prog 91, frs Tryz.prog 91, fvr Tryz.prog 91, ⟨(by kernel_rfl), (fun _ h => by cases h), (fun _ _ h => by cases h), (by kernel_rfl)⟩⟩
theorem ty92 : (.func : TI).ok Tryz.prog 92 := ⟨fps Tryz.prog 92, frs Tryz.prog 92, fvr Tryz.prog 92, ⟨(by kernel_rfl), (fun _ h => by cases h), (fun _ _ h => by cases h), (by kernel_rfl)⟩⟩
theorem ty93 : (.slice 140 .need 40 : TI).ok Tryz.prog 93 := ⟨⟨(by kernel_rfl), (fun _ h => by cases h), (fun _ _ h => by cases h), (by kernel_rfl)⟩, .agg #[.string ⟨#[]⟩, .int .i64 0, .string ⟨#[]⟩], (by kernel_rfl), rfl⟩
theorem ty94 : (.slice 142 .entry 48 : TI).ok Tryz.prog 94 := ⟨⟨(by kernel_rfl), (fun _ h => by cases h), (fun _ _ h => by cases h), (by kernel_rfl)⟩, .agg #[.string ⟨#[]⟩, .int .i64 0, .int .i64 0, .string ⟨#[]⟩], (by kernel_rfl), rfl⟩
theorem ty97 : (.func : TI).ok Tryz.prog 97 := ⟨fps Tryz.prog 97, frs Tryz.prog 97, fvr Tryz.prog 97, ⟨(by kernel_rfl), (fun _ h => by cases h), (fun _ _ h => by cases h), (by kernel_rfl)⟩⟩
theorem ty98 : (.func : TI).ok Tryz.prog 98 := ⟨fps Tryz.prog 98, frs Tryz.prog 98, fvr Tryz.prog 98, ⟨(by kernel_rfl), (fun _ h => by cases h), (fun _ _ h => by cases h), (by kernel_rfl)⟩⟩
theorem ty99 : (.func : TI).ok Tryz.prog 99 := ⟨fps Tryz.prog 99, frs Tryz.prog 99, fvr Tryz.prog 99, ⟨(by kernel_rfl), (fun _ h => by cases h), (fun _ _ h => by cases h), (by kernel_rfl)⟩⟩
theorem ty101 : (.func : TI).ok Tryz.prog 101 := ⟨fps Tryz.prog 101, frs Tryz.prog 101, fvr Tryz.prog 101, ⟨(by kernel_rfl), (fun _ h => by cases h), (fun _ _ h => by cases h), (by kernel_rfl)⟩⟩
theorem ty102 : (.func : TI).ok Tryz.prog 102 := ⟨fps Tryz.prog 102, frs Tryz.prog 102, fvr Tryz.prog 102, ⟨(by kernel_rfl), (fun _ h => by cases h), (fun _ _ h => by cases h), (by kernel_rfl)⟩⟩
theorem ty103 : (.func : TI).ok Tryz.prog 103 := ⟨fps Tryz.prog 103, frs Tryz.prog 103, fvr Tryz.prog 103, ⟨(by kernel_rfl), (fun _ h => by cases h), (fun _ _ h => by cases h), (by kernel_rfl)⟩⟩
theorem ty104 : (.func : TI).ok Tryz.prog 104 := ⟨fps Tryz.prog 104, frs Tryz.prog 104, fvr Tryz.prog 104, ⟨(by kernel_rfl), (fun _ h => by cases h), (fun _ _ h => by cases h), (by kernel_rfl)⟩⟩
theorem ty105 : (.func : TI).ok Tryz.prog 105 := ⟨fps Tryz.prog 105, frs Tryz.prog 105, fvr Tryz.prog 105, ⟨(by kernel_rfl), (fun _ h => by cases h), (fun _ _ h => by cases h), (by kernel_rfl)⟩⟩
theorem ty106 : (.func : TI).ok Tryz.prog 106 := ⟨fps Tryz.prog 106, frs Tryz.prog 106, fvr Tryz.prog 106, ⟨(by kernel_rfl), (fun _ h => by cases h), (fun _ _ h => by cases h), (by kernel_rfl)⟩⟩
theorem ty107 : (.func : TI).ok Tryz.prog 107 := ⟨fps Tryz.prog 107, frs Tryz.prog 107, fvr Tryz.prog 107, ⟨(by kernel_rfl), (fun _ h => by cases h), (fun _ _ h => by cases h), (by kernel_rfl)⟩⟩
theorem ty108 : (.func : TI).ok Tryz.prog 108 := ⟨fps Tryz.prog 108, frs Tryz.prog 108, fvr Tryz.prog 108, ⟨(by kernel_rfl), (fun _ h => by cases h), (fun _ _ h => by cases h), (by kernel_rfl)⟩⟩
theorem ty109 : (.func : TI).ok Tryz.prog 109 := ⟨fps Tryz.prog 109, frs Tryz.prog 109, fvr Tryz.prog 109, ⟨(by kernel_rfl), (fun _ h => by cases h), (fun _ _ h => by cases h), (by kernel_rfl)⟩⟩
theorem ty110 : (.func : TI).ok Tryz.prog 110 := ⟨fps Tryz.prog 110, frs Tryz.prog 110, fvr Tryz.prog 110, ⟨(by kernel_rfl), (fun _ h => by cases h), (fun _ _ h => by cases h), (by kernel_rfl)⟩⟩
theorem ty111 : (.func : TI).ok Tryz.prog 111 := ⟨fps Tryz.prog 111, frs Tryz.prog 111, fvr Tryz.prog 111, ⟨(by kernel_rfl), (fun _ h => by cases h), (fun _ _ h => by cases h), (by kernel_rfl)⟩⟩
theorem ty112 : (.func : TI).ok Tryz.prog 112 := ⟨fps Tryz.prog 112, frs Tryz.prog 112, fvr Tryz.prog 112, ⟨(by kernel_rfl), (fun _ h => by cases h), (fun _ _ h => by cases h), (by kernel_rfl)⟩⟩
theorem ty113 : (.func : TI).ok Tryz.prog 113 := ⟨fps Tryz.prog 113, frs Tryz.prog 113, fvr Tryz.prog 113, ⟨(by kernel_rfl), (fun _ h => by cases h), (fun _ _ h => by cases h), (by kernel_rfl)⟩⟩
theorem ty114 : (.func : TI).ok Tryz.prog 114 := ⟨fps Tryz.prog 114, frs Tryz.prog 114, fvr Tryz.prog 114, ⟨(by kernel_rfl), (fun _ h => by cases h), (fun _ _ h => by cases h), (by kernel_rfl)⟩⟩
theorem ty115 : (.func : TI).ok Tryz.prog 115 := ⟨fps Tryz.prog 115, frs Tryz.prog 115, fvr Tryz.prog 115, ⟨(by kernel_rfl), (fun _ h => by cases h), (fun _ _ h => by cases h), (by kernel_rfl)⟩⟩
theorem ty116 : (.func : TI).ok Tryz.prog 116 := ⟨fps Tryz.prog 116, frs Tryz.prog 116, fvr Tryz.prog 116, ⟨(by kernel_rfl), (fun _ h => by cases h), (fun _ _ h => by cases h), (by kernel_rfl)⟩⟩
theorem ty117 : (.func : TI).ok Tryz.prog 117 := ⟨fps Tryz.prog 117, frs Tryz.prog 117, fvr Tryz.prog 117, ⟨(by kernel_rfl), (fun _ h => by cases h), (fun _ _ h => by cases h), (by kernel_rfl)⟩⟩
theorem ty118 : (.func : TI).ok Tryz.prog 118 := ⟨fps Tryz.prog 118, frs Tryz.prog 118, fvr Tryz.prog 118, ⟨(by kernel_rfl), (fun _ h => by cases h), (fun _ _ h => by cases h), (by kernel_rfl)⟩⟩
theorem ty119 : (.func : TI).ok Tryz.prog 119 := ⟨fps Tryz.prog 119, frs Tryz.prog 119, fvr Tryz.prog 119, ⟨(by kernel_rfl), (fun _ h => by cases h), (fun _ _ h => by cases h), (by kernel_rfl)⟩⟩
theorem ty120 : (.func : TI).ok Tryz.prog 120 := ⟨fps Tryz.prog 120, frs Tryz.prog 120, fvr Tryz.prog 120, ⟨(by kernel_rfl), (fun _ h => by cases h), (fun _ _ h => by cases h), (by kernel_rfl)⟩⟩
theorem ty121 : (.func : TI).ok Tryz.prog 121 := ⟨fps Tryz.prog 121, frs Tryz.prog 121, fvr Tryz.prog 121, ⟨(by kernel_rfl), (fun _ h => by cases h), (fun _ _ h => by cases h), (by kernel_rfl)⟩⟩
theorem ty122 : (.func : TI).ok Tryz.prog 122 := ⟨fps Tryz.prog 122, frs Tryz.prog 122, fvr Tryz.prog 122, ⟨(by kernel_rfl), (fun _ h => by cases h), (fun _ _ h => by cases h), (by kernel_rfl)⟩⟩
theorem ty123 : (.func : TI).ok Tryz.prog 123 := ⟨fps Tryz.prog 123, frs Tryz.prog 123, fvr Tryz.prog 123, ⟨(by kernel_rfl), (fun _ h => by cases h), (fun _ _ h => by cases h), (by kernel_rfl)⟩⟩
theorem ty124 : (.func : TI).ok Tryz.prog 124 := ⟨fps Tryz.prog 124, frs Tryz.prog 124, fvr Tryz.prog 124, ⟨(by kernel_rfl), (fun _ h => by cases h), (fun _ _ h => by cases h), (by kernel_rfl)⟩⟩
theorem ty125 : (.func : TI).ok Tryz.prog 125 := ⟨fps Tryz.prog 125, frs Tryz.prog 125, fvr Tryz.prog 125, ⟨(by kernel_rfl), (fun _ h => by cases h), (fun _ _ h => by cases h), (by kernel_rfl)⟩⟩
theorem ty126 : (.func : TI).ok Tryz.prog 126 := ⟨fps Tryz.prog 126, frs Tryz.prog 126, fvr Tryz.prog 126, ⟨(by kernel_rfl), (fun _ h => by cases h), (fun _ _ h => by cases h), (by kernel_rfl)⟩⟩
theorem ty127 : (.func : TI).ok Tryz.prog 127 := ⟨fps Tryz.prog 127, frs Tryz.prog 127, fvr Tryz.prog 127, ⟨(by kernel_rfl), (fun _ h => by cases h), (fun _ _ h => by cases h), (by kernel_rfl)⟩⟩
theorem ty128 : (.slice 3 .i64 8 : TI).ok Tryz.prog 128 := ⟨⟨(by kernel_rfl), (fun _ h => by cases h), (fun _ _ h => by cases h), (by kernel_rfl)⟩, .int .i64 0, (by kernel_rfl), rfl⟩
theorem ty130 : (.func : TI).ok Tryz.prog 130 := ⟨fps Tryz.prog 130, frs Tryz.prog 130, fvr Tryz.prog 130, ⟨(by kernel_rfl), (fun _ h => by cases h), (fun _ _ h => by cases h), (by kernel_rfl)⟩⟩
theorem ty131 : (.func : TI).ok Tryz.prog 131 := ⟨fps Tryz.prog 131, frs Tryz.prog 131, fvr Tryz.prog 131, ⟨(by kernel_rfl), (fun _ h => by cases h), (fun _ _ h => by cases h), (by kernel_rfl)⟩⟩
theorem ty132 : (.func : TI).ok Tryz.prog 132 := ⟨fps Tryz.prog 132, frs Tryz.prog 132, fvr Tryz.prog 132, ⟨(by kernel_rfl), (fun _ h => by cases h), (fun _ _ h => by cases h), (by kernel_rfl)⟩⟩
theorem ty133 : (.func : TI).ok Tryz.prog 133 := ⟨fps Tryz.prog 133, frs Tryz.prog 133, fvr Tryz.prog 133, ⟨(by kernel_rfl), (fun _ h => by cases h), (fun _ _ h => by cases h), (by kernel_rfl)⟩⟩
theorem ty135 : (.func : TI).ok Tryz.prog 135 := ⟨fps Tryz.prog 135, frs Tryz.prog 135, fvr Tryz.prog 135, ⟨(by kernel_rfl), (fun _ h => by cases h), (fun _ _ h => by cases h), (by kernel_rfl)⟩⟩
theorem ty136 : (.func : TI).ok Tryz.prog 136 := ⟨fps Tryz.prog 136, frs Tryz.prog 136, fvr Tryz.prog 136, ⟨(by kernel_rfl), (fun _ h => by cases h), (fun _ _ h => by cases h), (by kernel_rfl)⟩⟩
theorem ty137 : (.func : TI).ok Tryz.prog 137 := ⟨fps Tryz.prog 137, frs Tryz.prog 137, fvr Tryz.prog 137, ⟨(by kernel_rfl), (fun _ h => by cases h), (fun _ _ h => by cases h), (by kernel_rfl)⟩⟩
theorem ty138 : (.func : TI).ok Tryz.prog 138 := ⟨fps Tryz.prog 138, frs Tryz.prog 138, fvr Tryz.prog 138, ⟨(by kernel_rfl), (fun _ h => by cases h), (fun _ _ h => by cases h), (by kernel_rfl)⟩⟩
theorem ty139 : (.func : TI).ok Tryz.prog 139 := ⟨fps Tryz.prog 139, frs Tryz.prog 139, fvr Tryz.prog 139, ⟨(by kernel_rfl), (fun _ h => by cases h), (fun _ _ h => by cases h), (by kernel_rfl)⟩⟩
theorem ty141 : (.func : TI).ok Tryz.prog 141 := ⟨fps Tryz.prog 141, frs Tryz.prog 141, fvr Tryz.prog 141, ⟨(by kernel_rfl), (fun _ h => by cases h), (fun _ _ h => by cases h), (by kernel_rfl)⟩⟩
theorem ty143 : (.func : TI).ok Tryz.prog 143 := ⟨fps Tryz.prog 143, frs Tryz.prog 143, fvr Tryz.prog 143, ⟨(by kernel_rfl), (fun _ h => by cases h), (fun _ _ h => by cases h), (by kernel_rfl)⟩⟩
theorem ty144 : (.func : TI).ok Tryz.prog 144 := ⟨fps Tryz.prog 144, frs Tryz.prog 144, fvr Tryz.prog 144, ⟨(by kernel_rfl), (fun _ h => by cases h), (fun _ _ h => by cases h), (by kernel_rfl)⟩⟩
theorem ty145 : (.func : TI).ok Tryz.prog 145 := ⟨fps Tryz.prog 145, frs Tryz.prog 145, fvr Tryz.prog 145, ⟨(by kernel_rfl), (fun _ h => by cases h), (fun _ _ h => by cases h), (by kernel_rfl)⟩⟩
theorem ty146 : (.func : TI).ok Tryz.prog 146 := ⟨fps Tryz.prog 146, frs Tryz.prog 146, fvr Tryz.prog 146, ⟨(by kernel_rfl), (fun _ h => by cases h), (fun _ _ h => by cases h), (by kernel_rfl)⟩⟩
theorem ty147 : (.int .u64 : TI).ok Tryz.prog 147 := ⟨(by kernel_rfl), (fun _ h => by cases h), (fun _ _ h => by cases h), (by kernel_rfl)⟩
theorem ty148 : (.func : TI).ok Tryz.prog 148 := ⟨fps Tryz.prog 148, frs Tryz.prog 148, fvr Tryz.prog 148, ⟨(by kernel_rfl), (fun _ h => by cases h), (fun _ _ h => by cases h), (by kernel_rfl)⟩⟩
theorem ty149 : (.func : TI).ok Tryz.prog 149 := ⟨fps Tryz.prog 149, frs Tryz.prog 149, fvr Tryz.prog 149, ⟨(by kernel_rfl), (fun _ h => by cases h), (fun _ _ h => by cases h), (by kernel_rfl)⟩⟩
theorem ty150 : (.func : TI).ok Tryz.prog 150 := ⟨fps Tryz.prog 150, frs Tryz.prog 150, fvr Tryz.prog 150, ⟨(by kernel_rfl), (fun _ h => by cases h), (fun _ _ h => by cases h), (by kernel_rfl)⟩⟩
theorem ty151 : (.func : TI).ok Tryz.prog 151 := ⟨fps Tryz.prog 151, frs Tryz.prog 151, fvr Tryz.prog 151, ⟨(by kernel_rfl), (fun _ h => by cases h), (fun _ _ h => by cases h), (by kernel_rfl)⟩⟩
theorem ty152 : (.func : TI).ok Tryz.prog 152 := ⟨fps Tryz.prog 152, frs Tryz.prog 152, fvr Tryz.prog 152, ⟨(by kernel_rfl), (fun _ h => by cases h), (fun _ _ h => by cases h), (by kernel_rfl)⟩⟩
theorem ty153 : (.func : TI).ok Tryz.prog 153 := ⟨fps Tryz.prog 153, frs Tryz.prog 153, fvr Tryz.prog 153, ⟨(by kernel_rfl), (fun _ h => by cases h), (fun _ _ h => by cases h), (by kernel_rfl)⟩⟩
theorem ty154 : (.func : TI).ok Tryz.prog 154 := ⟨fps Tryz.prog 154, frs Tryz.prog 154, fvr Tryz.prog 154, ⟨(by kernel_rfl), (fun _ h => by cases h), (fun _ _ h => by cases h), (by kernel_rfl)⟩⟩
theorem ty155 : (.func : TI).ok Tryz.prog 155 := ⟨fps Tryz.prog 155, frs Tryz.prog 155, fvr Tryz.prog 155, ⟨(by kernel_rfl), (fun _ h => by cases h), (fun _ _ h => by cases h), (by kernel_rfl)⟩⟩
theorem ty156 : (.func : TI).ok Tryz.prog 156 := ⟨fps Tryz.prog 156, frs Tryz.prog 156, fvr Tryz.prog 156, ⟨(by kernel_rfl), (fun _ h => by cases h), (fun _ _ h => by cases h), (by kernel_rfl)⟩⟩
theorem ty157 : (.func : TI).ok Tryz.prog 157 := ⟨fps Tryz.prog 157, frs Tryz.prog 157, fvr Tryz.prog 157, ⟨(by kernel_rfl), (fun _ h => by cases h), (fun _ _ h => by cases h), (by kernel_rfl)⟩⟩
theorem ty158 : (.func : TI).ok Tryz.prog 158 := ⟨fps Tryz.prog 158, frs Tryz.prog 158, fvr Tryz.prog 158, ⟨(by kernel_rfl), (fun _ h => by cases h), (fun _ _ h => by cases h), (by kernel_rfl)⟩⟩
theorem ty159 : (.func : TI).ok Tryz.prog 159 := ⟨fps Tryz.prog 159, frs Tryz.prog 159, fvr Tryz.prog 159, ⟨(by kernel_rfl), (fun _ h => by cases h), (fun _ _ h => by cases h), (by kernel_rfl)⟩⟩
theorem ty160 : (.func : TI).ok Tryz.prog 160 := ⟨fps Tryz.prog 160, frs Tryz.prog 160, fvr Tryz.prog 160, ⟨(by kernel_rfl), (fun _ h => by cases h), (fun _ _ h => by cases h), (by kernel_rfl)⟩⟩
theorem ty161 : (.func : TI).ok Tryz.prog 161 := ⟨fps Tryz.prog 161, frs Tryz.prog 161, fvr Tryz.prog 161, ⟨(by kernel_rfl), (fun _ h => by cases h), (fun _ _ h => by cases h), (by kernel_rfl)⟩⟩
theorem ty162 : (.func : TI).ok Tryz.prog 162 := ⟨fps Tryz.prog 162, frs Tryz.prog 162, fvr Tryz.prog 162, ⟨(by kernel_rfl), (fun _ h => by cases h), (fun _ _ h => by cases h), (by kernel_rfl)⟩⟩
theorem ty163 : (.func : TI).ok Tryz.prog 163 := ⟨fps Tryz.prog 163, frs Tryz.prog 163, fvr Tryz.prog 163, ⟨(by kernel_rfl), (fun _ h => by cases h), (fun _ _ h => by cases h), (by kernel_rfl)⟩⟩
theorem ty164 : (.func : TI).ok Tryz.prog 164 := ⟨fps Tryz.prog 164, frs Tryz.prog 164, fvr Tryz.prog 164, ⟨(by kernel_rfl), (fun _ h => by cases h), (fun _ _ h => by cases h), (by kernel_rfl)⟩⟩
theorem ty165 : (.func : TI).ok Tryz.prog 165 := ⟨fps Tryz.prog 165, frs Tryz.prog 165, fvr Tryz.prog 165, ⟨(by kernel_rfl), (fun _ h => by cases h), (fun _ _ h => by cases h), (by kernel_rfl)⟩⟩
theorem ty167 : (.func : TI).ok Tryz.prog 167 := ⟨fps Tryz.prog 167, frs Tryz.prog 167, fvr Tryz.prog 167, ⟨(by kernel_rfl), (fun _ h => by cases h), (fun _ _ h => by cases h), (by kernel_rfl)⟩⟩
theorem ty168 : (.func : TI).ok Tryz.prog 168 := ⟨fps Tryz.prog 168, frs Tryz.prog 168, fvr Tryz.prog 168, ⟨(by kernel_rfl), (fun _ h => by cases h), (fun _ _ h => by cases h), (by kernel_rfl)⟩⟩
theorem ty169 : (.func : TI).ok Tryz.prog 169 := ⟨fps Tryz.prog 169, frs Tryz.prog 169, fvr Tryz.prog 169, ⟨(by kernel_rfl), (fun _ h => by cases h), (fun _ _ h => by cases h), (by kernel_rfl)⟩⟩
theorem ty174 : (.int .u32 : TI).ok Tryz.prog 174 := ⟨(by kernel_rfl), (fun _ h => by cases h), (fun _ _ h => by cases h), (by kernel_rfl)⟩
theorem ty176 : (.func : TI).ok Tryz.prog 176 := ⟨fps Tryz.prog 176, frs Tryz.prog 176, fvr Tryz.prog 176, ⟨(by kernel_rfl), (fun _ h => by cases h), (fun _ _ h => by cases h), (by kernel_rfl)⟩⟩
theorem ty177 : (.func : TI).ok Tryz.prog 177 := ⟨fps Tryz.prog 177, frs Tryz.prog 177, fvr Tryz.prog 177, ⟨(by kernel_rfl), (fun _ h => by cases h), (fun _ _ h => by cases h), (by kernel_rfl)⟩⟩
theorem ty183 : (.int .u8 : TI).ok Tryz.prog 183 := ⟨(by kernel_rfl), (fun _ h => by cases h), (fun _ _ h => by cases h), (by kernel_rfl)⟩
theorem ty184 : (.int .u8 : TI).ok Tryz.prog 184 := ⟨(by kernel_rfl), (fun _ h => by cases h), (fun _ _ h => by cases h), (by kernel_rfl)⟩
theorem ty185 : (.func : TI).ok Tryz.prog 185 := ⟨fps Tryz.prog 185, frs Tryz.prog 185, fvr Tryz.prog 185, ⟨(by kernel_rfl), (fun _ h => by cases h), (fun _ _ h => by cases h), (by kernel_rfl)⟩⟩
theorem ty186 : (.ptr : TI).ok Tryz.prog 186 := ⟨5, ⟨(by kernel_rfl), (fun _ h => by cases h), (fun _ _ h => by cases h), (by kernel_rfl)⟩⟩
theorem ty187 : (.int .i32 : TI).ok Tryz.prog 187 := ⟨(by kernel_rfl), (fun _ h => by cases h), (fun _ _ h => by cases h), (by kernel_rfl)⟩
theorem ty188 : (.int .i32 : TI).ok Tryz.prog 188 := ⟨(by kernel_rfl), (fun _ h => by cases h), (fun _ _ h => by cases h), (by kernel_rfl)⟩
theorem ty7 : (.struct [(0, 1), (1, 1), (2, 1), (3, 1)] 4 [.d (.int .i64 0), .d (.int .i64 0), .d (.bool false), .d (.int .u8 0)] false : TI).ok Tryz.prog 7 := ⟨flds Tryz.prog 7, (by kernel_rfl), ⟨(by kernel_rfl), (by decide)⟩, ⟨#[.int .i64 0, .int .i64 0, .bool false, .int .u8 0], (by kernel_rfl), (by kernel_rfl), rfl⟩, (fun h => by cases h)⟩
theorem ty8 : (.struct [(0, 1), (1, 1), (2, 1), (3, 1)] 4 [.d (.int .i64 0), .d (.int .i64 0), .d (.bool false), .d (.int .u8 0)] false : TI).ok Tryz.prog 8 := ⟨flds Tryz.prog 8, (by kernel_rfl), ⟨(by kernel_rfl), (by decide)⟩, ⟨#[.int .i64 0, .int .i64 0, .bool false, .int .u8 0], (by kernel_rfl), (by kernel_rfl), rfl⟩, (fun h => by cases h)⟩
theorem ty13 : (.struct [(0, 1), (1, 1)] 2 [.d (.str []), .d (.int .u64 0)] false : TI).ok Tryz.prog 13 := ⟨flds Tryz.prog 13, (by kernel_rfl), ⟨(by kernel_rfl), (by decide)⟩, ⟨#[.string ⟨#[]⟩, .int .u64 0], (by kernel_rfl), (by kernel_rfl), rfl⟩, (fun h => by cases h)⟩
theorem ty14 : (.struct [(0, 1), (1, 1)] 2 [.d (.str []), .d (.int .u64 0)] false : TI).ok Tryz.prog 14 := ⟨flds Tryz.prog 14, (by kernel_rfl), ⟨(by kernel_rfl), (by decide)⟩, ⟨#[.string ⟨#[]⟩, .int .u64 0], (by kernel_rfl), (by kernel_rfl), rfl⟩, (fun h => by cases h)⟩
theorem ty18 : (.struct [(0, 1)] 1 [.cst (.pointer none)] false : TI).ok Tryz.prog 18 := ⟨flds Tryz.prog 18, (by kernel_rfl), ⟨(by kernel_rfl), (by decide)⟩, ⟨#[.pointer none], (by kernel_rfl), (by kernel_rfl), rfl⟩, (fun h => by cases h)⟩
theorem ty19 : (.struct [(0, 1)] 1 [.cst (.pointer none)] false : TI).ok Tryz.prog 19 := ⟨flds Tryz.prog 19, (by kernel_rfl), ⟨(by kernel_rfl), (by decide)⟩, ⟨#[.pointer none], (by kernel_rfl), (by kernel_rfl), rfl⟩, (fun h => by cases h)⟩
theorem ty34 : (.struct [(0, 1), (1, 1), (2, 1), (3, 1)] 4 [.d (.str []), .d (.str []), .nil .need, .nil .entry] false : TI).ok Tryz.prog 34 := ⟨flds Tryz.prog 34, (by kernel_rfl), ⟨(by kernel_rfl), (by decide)⟩, ⟨#[.string ⟨#[]⟩, .string ⟨#[]⟩, .slice none 0 0, .slice none 0 0], (by kernel_rfl), (by kernel_rfl), rfl⟩, (fun h => by cases h)⟩
theorem ty35 : (.struct [(0, 1), (1, 1), (2, 1), (3, 1)] 4 [.d (.str []), .d (.str []), .nil .need, .nil .entry] false : TI).ok Tryz.prog 35 := ⟨flds Tryz.prog 35, (by kernel_rfl), ⟨(by kernel_rfl), (by decide)⟩, ⟨#[.string ⟨#[]⟩, .string ⟨#[]⟩, .slice none 0 0, .slice none 0 0], (by kernel_rfl), (by kernel_rfl), rfl⟩, (fun h => by cases h)⟩
theorem ty36 : (.struct [(0, 1), (1, 1), (2, 1)] 3 [.d (.str []), .d (.int .i64 0), .d (.str [])] false : TI).ok Tryz.prog 36 := ⟨flds Tryz.prog 36, (by kernel_rfl), ⟨(by kernel_rfl), (by decide)⟩, ⟨#[.string ⟨#[]⟩, .int .i64 0, .string ⟨#[]⟩], (by kernel_rfl), (by kernel_rfl), rfl⟩, (fun h => by cases h)⟩
theorem ty37 : (.struct [(0, 1), (1, 1), (2, 1)] 3 [.d (.str []), .d (.int .i64 0), .d (.str [])] true : TI).ok Tryz.prog 37 := ⟨flds Tryz.prog 37, (by kernel_rfl), ⟨(by kernel_rfl), (by decide)⟩, ⟨#[.string ⟨#[]⟩, .int .i64 0, .string ⟨#[]⟩], (by kernel_rfl), (by kernel_rfl), rfl⟩, (fun _ => eq_struct (l := [(9, 0, false), (3, 1, false), (9, 2, false)]) (fields := flds Tryz.prog 37) (by kernel_rfl) (by kernel_rfl) (by kernel_rfl) (by kernel_rfl) (by intro h; have h2 : (flds Tryz.prog 37).toList.length = 0 := (by rw [h]; rfl); have h3 : (flds Tryz.prog 37).toList.length = 3 := (by kernel_rfl); rw [h3] at h2; cases h2) ⟨rfl, rfl, ty9, rfl, rfl, ty3, rfl, rfl, ty9, trivial⟩)⟩
theorem ty39 : (.struct [(0, 1)] 1 [.nil .pack] false : TI).ok Tryz.prog 39 := ⟨flds Tryz.prog 39, (by kernel_rfl), ⟨(by kernel_rfl), (by decide)⟩, ⟨#[.slice none 0 0], (by kernel_rfl), (by kernel_rfl), rfl⟩, (fun h => by cases h)⟩
theorem ty40 : (.struct [(0, 1)] 1 [.nil .pack] false : TI).ok Tryz.prog 40 := ⟨flds Tryz.prog 40, (by kernel_rfl), ⟨(by kernel_rfl), (by decide)⟩, ⟨#[.slice none 0 0], (by kernel_rfl), (by kernel_rfl), rfl⟩, (fun h => by cases h)⟩
theorem ty43 : (.struct [(0, 1)] 1 [.nil .pack] false : TI).ok Tryz.prog 43 := ⟨flds Tryz.prog 43, (by kernel_rfl), ⟨(by kernel_rfl), (by decide)⟩, ⟨#[.slice none 0 0], (by kernel_rfl), (by kernel_rfl), rfl⟩, (fun h => by cases h)⟩
theorem ty44 : (.struct [(0, 1)] 1 [.nil .pack] false : TI).ok Tryz.prog 44 := ⟨flds Tryz.prog 44, (by kernel_rfl), ⟨(by kernel_rfl), (by decide)⟩, ⟨#[.slice none 0 0], (by kernel_rfl), (by kernel_rfl), rfl⟩, (fun h => by cases h)⟩
theorem ty73 : (.struct [(0, 1), (1, 1), (2, 1), (3, 1)] 4 [.d (.str []), .d (.int .i64 0), .d (.int .i64 0), .d (.str [])] false : TI).ok Tryz.prog 73 := ⟨flds Tryz.prog 73, (by kernel_rfl), ⟨(by kernel_rfl), (by decide)⟩, ⟨#[.string ⟨#[]⟩, .int .i64 0, .int .i64 0, .string ⟨#[]⟩], (by kernel_rfl), (by kernel_rfl), rfl⟩, (fun h => by cases h)⟩
theorem ty74 : (.struct [(0, 1), (1, 1), (2, 1), (3, 1)] 4 [.d (.str []), .d (.int .i64 0), .d (.int .i64 0), .d (.str [])] true : TI).ok Tryz.prog 74 := ⟨flds Tryz.prog 74, (by kernel_rfl), ⟨(by kernel_rfl), (by decide)⟩, ⟨#[.string ⟨#[]⟩, .int .i64 0, .int .i64 0, .string ⟨#[]⟩], (by kernel_rfl), (by kernel_rfl), rfl⟩, (fun _ => eq_struct (l := [(9, 0, false), (3, 1, false), (3, 2, false), (9, 3, false)]) (fields := flds Tryz.prog 74) (by kernel_rfl) (by kernel_rfl) (by kernel_rfl) (by kernel_rfl) (by intro h; have h2 : (flds Tryz.prog 74).toList.length = 0 := (by rw [h]; rfl); have h3 : (flds Tryz.prog 74).toList.length = 4 := (by kernel_rfl); rw [h3] at h2; cases h2) ⟨rfl, rfl, ty9, rfl, rfl, ty3, rfl, rfl, ty3, rfl, rfl, ty9, trivial⟩)⟩
theorem ty82 : (.struct [(0, 1), (1, 1)] 2 [.nil .u8, .d (.int .i64 0)] false : TI).ok Tryz.prog 82 := ⟨flds Tryz.prog 82, (by kernel_rfl), ⟨(by kernel_rfl), (by decide)⟩, ⟨#[.slice none 0 0, .int .i64 0], (by kernel_rfl), (by kernel_rfl), rfl⟩, (fun h => by cases h)⟩
theorem ty83 : (.struct [(0, 1), (1, 1)] 2 [.nil .u8, .d (.int .i64 0)] false : TI).ok Tryz.prog 83 := ⟨flds Tryz.prog 83, (by kernel_rfl), ⟨(by kernel_rfl), (by decide)⟩, ⟨#[.slice none 0 0, .int .i64 0], (by kernel_rfl), (by kernel_rfl), rfl⟩, (fun h => by cases h)⟩
theorem ty95 : (.struct [(0, 1), (1, 1), (2, 1), (3, 1)] 4 [.d (.str []), .d (.str []), .nil .need, .nil .entry] false : TI).ok Tryz.prog 95 := ⟨flds Tryz.prog 95, (by kernel_rfl), ⟨(by kernel_rfl), (by decide)⟩, ⟨#[.string ⟨#[]⟩, .string ⟨#[]⟩, .slice none 0 0, .slice none 0 0], (by kernel_rfl), (by kernel_rfl), rfl⟩, (fun h => by cases h)⟩
theorem ty96 : (.struct [(0, 1), (1, 1), (2, 1), (3, 1)] 4 [.d (.str []), .d (.str []), .nil .need, .nil .entry] false : TI).ok Tryz.prog 96 := ⟨flds Tryz.prog 96, (by kernel_rfl), ⟨(by kernel_rfl), (by decide)⟩, ⟨#[.string ⟨#[]⟩, .string ⟨#[]⟩, .slice none 0 0, .slice none 0 0], (by kernel_rfl), (by kernel_rfl), rfl⟩, (fun h => by cases h)⟩
theorem ty140 : (.struct [(0, 1), (1, 1), (2, 1)] 3 [.d (.str []), .d (.int .i64 0), .d (.str [])] true : TI).ok Tryz.prog 140 := ⟨flds Tryz.prog 140, (by kernel_rfl), ⟨(by kernel_rfl), (by decide)⟩, ⟨#[.string ⟨#[]⟩, .int .i64 0, .string ⟨#[]⟩], (by kernel_rfl), (by kernel_rfl), rfl⟩, (fun _ => eq_struct (l := [(9, 0, false), (3, 1, false), (9, 2, false)]) (fields := flds Tryz.prog 140) (by kernel_rfl) (by kernel_rfl) (by kernel_rfl) (by kernel_rfl) (by intro h; have h2 : (flds Tryz.prog 140).toList.length = 0 := (by rw [h]; rfl); have h3 : (flds Tryz.prog 140).toList.length = 3 := (by kernel_rfl); rw [h3] at h2; cases h2) ⟨rfl, rfl, ty9, rfl, rfl, ty3, rfl, rfl, ty9, trivial⟩)⟩
theorem ty142 : (.struct [(0, 1), (1, 1), (2, 1), (3, 1)] 4 [.d (.str []), .d (.int .i64 0), .d (.int .i64 0), .d (.str [])] true : TI).ok Tryz.prog 142 := ⟨flds Tryz.prog 142, (by kernel_rfl), ⟨(by kernel_rfl), (by decide)⟩, ⟨#[.string ⟨#[]⟩, .int .i64 0, .int .i64 0, .string ⟨#[]⟩], (by kernel_rfl), (by kernel_rfl), rfl⟩, (fun _ => eq_struct (l := [(9, 0, false), (3, 1, false), (3, 2, false), (9, 3, false)]) (fields := flds Tryz.prog 142) (by kernel_rfl) (by kernel_rfl) (by kernel_rfl) (by kernel_rfl) (by intro h; have h2 : (flds Tryz.prog 142).toList.length = 0 := (by rw [h]; rfl); have h3 : (flds Tryz.prog 142).toList.length = 4 := (by kernel_rfl); rw [h3] at h2; cases h2) ⟨rfl, rfl, ty9, rfl, rfl, ty3, rfl, rfl, ty3, rfl, rfl, ty9, trivial⟩)⟩
theorem ty171 : (.struct [(0, 1), (1, 1)] 2 [.d (.int .u8 0), .d (.int .u8 0)] false : TI).ok Tryz.prog 171 := ⟨flds Tryz.prog 171, (by kernel_rfl), ⟨(by kernel_rfl), (by decide)⟩, ⟨#[.int .u8 0, .int .u8 0], (by kernel_rfl), (by kernel_rfl), rfl⟩, (fun h => by cases h)⟩
theorem ty172 : (.struct [(0, 1), (1, 1)] 2 [.d (.int .u8 0), .d (.int .u8 0)] false : TI).ok Tryz.prog 172 := ⟨flds Tryz.prog 172, (by kernel_rfl), ⟨(by kernel_rfl), (by decide)⟩, ⟨#[.int .u8 0, .int .u8 0], (by kernel_rfl), (by kernel_rfl), rfl⟩, (fun h => by cases h)⟩
theorem ty178 : (.struct [(0, 1), (1, 1), (2, 1), (3, 1)] 4 [.cst (.pointer none), .cst (.pointer none), .cst (.pointer none), .d (.str [])] false : TI).ok Tryz.prog 178 := ⟨flds Tryz.prog 178, (by kernel_rfl), ⟨(by kernel_rfl), (by decide)⟩, ⟨#[.pointer none, .pointer none, .pointer none, .string ⟨#[]⟩], (by kernel_rfl), (by kernel_rfl), rfl⟩, (fun h => by cases h)⟩
theorem ty179 : (.struct [(0, 1), (1, 1), (2, 1), (3, 1)] 4 [.cst (.pointer none), .cst (.pointer none), .cst (.pointer none), .d (.str [])] false : TI).ok Tryz.prog 179 := ⟨flds Tryz.prog 179, (by kernel_rfl), ⟨(by kernel_rfl), (by decide)⟩, ⟨#[.pointer none, .pointer none, .pointer none, .string ⟨#[]⟩], (by kernel_rfl), (by kernel_rfl), rfl⟩, (fun h => by cases h)⟩
theorem ty189 : (.struct [(0, 1), (1, 1), (2, 1), (3, 1), (4, 1), (5, 1), (6, 1), (7, 1), (8, 1), (9, 1), (10, 1)] 11 [.d (.int .u64 0), .d (.int .u64 0), .d (.int .u32 0), .d (.int .u8 0), .d (.int .u8 0), .d (.int .u8 0), .d (.int .u8 0), .cst .nilFunc, .cst (.pointer none), .d (.int .i32 0), .d (.int .i32 0)] false : TI).ok Tryz.prog 189 := ⟨flds Tryz.prog 189, (by kernel_rfl), ⟨(by kernel_rfl), (by decide)⟩, ⟨#[.int .u64 0, .int .u64 0, .int .u32 0, .int .u8 0, .int .u8 0, .int .u8 0, .int .u8 0, .nilFunc, .pointer none, .int .i32 0, .int .i32 0], (by kernel_rfl), (by kernel_rfl), rfl⟩, (fun h => by cases h)⟩
theorem ty190 : (.struct [(0, 1), (1, 1), (2, 1), (3, 1), (4, 1), (5, 1), (6, 1), (7, 1), (8, 1), (9, 1), (10, 1)] 11 [.d (.int .u64 0), .d (.int .u64 0), .d (.int .u32 0), .d (.int .u8 0), .d (.int .u8 0), .d (.int .u8 0), .d (.int .u8 0), .cst .nilFunc, .cst (.pointer none), .d (.int .i32 0), .d (.int .i32 0)] false : TI).ok Tryz.prog 190 := ⟨flds Tryz.prog 190, (by kernel_rfl), ⟨(by kernel_rfl), (by decide)⟩, ⟨#[.int .u64 0, .int .u64 0, .int .u32 0, .int .u8 0, .int .u8 0, .int .u8 0, .int .u8 0, .nilFunc, .pointer none, .int .i32 0, .int .i32 0], (by kernel_rfl), (by kernel_rfl), rfl⟩, (fun h => by cases h)⟩
theorem tt_mo : Tryz.prog.follows .mixedOrders = true := by kernel_rfl
theorem tt_ok : ∀ T, (tt T).ok Tryz.prog T := tyAt_ok (l := ttL) ⟨ty1, ty2, ty3, ty4, ty5, ty6, ty7, ty8, ty9, ty10, ty11, ty12, ty13, ty14, ty15, ty16, ty17, ty18, ty19, ty21, ty22, ty23, ty24, ty26, ty28, ty29, ty30, ty31, ty32, ty33, ty34, ty35, ty36, ty37, ty38, ty39, ty40, ty41, ty42, ty43, ty44, ty45, ty46, ty47, ty48, ty49, ty50, ty51, ty52, ty53, ty54, ty55, ty56, ty57, ty58, ty61, ty62, ty65, ty66, ty67, ty68, ty69, ty70, ty72, ty73, ty74, ty76, ty78, ty79, ty80, ty81, ty82, ty83, ty84, ty85, ty86, ty87, ty88, ty89, ty90, ty91, ty92, ty93, ty94, ty95, ty96, ty97, ty98, ty99, ty101, ty102, ty103, ty104, ty105, ty106, ty107, ty108, ty109, ty110, ty111, ty112, ty113, ty114, ty115, ty116, ty117, ty118, ty119, ty120, ty121, ty122, ty123, ty124, ty125, ty126, ty127, ty128, ty130, ty131, ty132, ty133, ty135, ty136, ty137, ty138, ty139, ty140, ty141, ty142, ty143, ty144, ty145, ty146, ty147, ty148, ty149, ty150, ty151, ty152, ty153, ty154, ty155, ty156, ty157, ty158, ty159, ty160, ty161, ty162, ty163, ty164, ty165, ty167, ty168, ty169, ty171, ty172, ty174, ty176, ty177, ty178, ty179, ty183, ty184, ty185, ty186, ty187, ty188, ty189, ty190, trivial⟩
end Go.Proofs

set_option maxRecDepth 100000
set_option linter.unusedVariables false
namespace Go.Proofs
open Go.Jk
-- 110 loop.example/jackstay/spec.l1In
noncomputable def c110 : Ctx := { tt := tt, fs := fun n => match n with | _ => none }
theorem k110 (h : ∀ T, (tt T).ok Tryz.prog T) : CtxGood Tryz.prog c110 := ⟨⟨h⟩, fun g S hg => (by cases hg), tt_mo, fun _ _ h => (by cases h)⟩
noncomputable def b110 : Code := codeOf Tryz.f110
@[reducible] noncomputable def i110 : Shape := ⟨[(0, .lf (.d (.int .i64))), (1, .lf (.d (.int .i64))), (2, .lf (.d (.int .i64)))], [], 15⟩
@[reducible] noncomputable def o110 : Shape := ⟨[(6, .lf (.d (.bool)))], [], 15⟩
noncomputable def f110 (a : i110.Y) : Option o110.Y :=
  bif (decide (a.1.1 ≥ a.1.2.1)) then
  some (((decide (a.1.1 ≤ a.1.2.2.1)), ()), ())
else
  some ((false, ()), ())
theorem e110 : ∀ a, f110 a = bodyF (ctxWith c110 []) b110 i110 o110 a := fun a => by kernel_rfl
noncomputable def S110 : Summ := funSumm tt 15 i110 o110 [.tmp 6] f110
theorem z110 (h : ∀ T, (tt T).ok Tryz.prog T) : SummOk Tryz.prog 110 S110 :=
  have H := k110 h
  fun_at (fn := Tryz.f110) (fr := []) H (by kernel_rfl) (by kernel_rfl) (by kernel_rfl) (by kernel_rfl) (by kernel_rfl) frags_nil (fun y => ⟨_, rfl, rfl⟩) e110
end Go.Proofs

set_option maxRecDepth 100000
set_option linter.unusedVariables false
namespace Go.Proofs
open Go.Jk
-- 138 loop.example/jackstay/impl.number
noncomputable def c138 : Ctx := { tt := tt, fs := fun n => match n with | _ => none }
theorem k138 (h : ∀ T, (tt T).ok Tryz.prog T) : CtxGood Tryz.prog c138 := ⟨⟨h⟩, fun g S hg => (by cases hg), tt_mo, fun _ _ h => (by cases h)⟩
noncomputable def b138 : Code := codeOf Tryz.f138
@[reducible] noncomputable def s138_12 : Shape := ⟨[(0, .lf (.d (.str))), (1, .lf (.d (.int .i64)))], [], 53⟩
@[reducible] noncomputable def t138_12 : List OSh := [(.norm, ⟨[(0, .lf (.d (.str))), (1, .lf (.d (.int .i64))), (24, .lf (.d (.bool)))], [], 53⟩)]
noncomputable def g138_12 (y : s138_12.Y) : Option (YS t138_12) :=
  bif (!(y.1.1 == ([] : Str))) then
  bif (!(decide ((y.1.1.length : Int) > (9 : Int)))) then
  bif (decide ((y.1.1.length : Int) > (1 : Int))) then
(ix y.1.1 (0 : Int)).bind fun x732 =>
  some (((y.1.1, (y.1.2.1, (((x732.toNat : Int) == (48 : Int)), ()))), ()))
else
  some (((y.1.1, (y.1.2.1, (false, ()))), ()))
else
  some (((y.1.1, (y.1.2.1, (true, ()))), ()))
else
  some (((y.1.1, (y.1.2.1, (true, ()))), ()))
theorem r138_12 : ∀ y, g138_12 y = pieceF (ctxWith c138 []) (codeAt b138 1 12) 12 s138_12 t138_12 y := fun y => by kernel_rfl
theorem q138_12 (H : CtxGood Tryz.prog c138) : FragOk Tryz.prog (codeAt b138 1 12) (fragOrc s138_12 t138_12 g138_12) :=
  piece_at (fr := []) H (by kernel_rfl) frags_nil r138_12
@[reducible] noncomputable def s138_31332 : Shape := ⟨[(0, .lf (.d (.str))), (1, .lf (.d (.int .i64))), (6, .lf (.d (.int .i64))), (7, .lf (.d (.int .i64))), (26, .lf (.d (.int .i64))), (27, .lf (.d (.int .i64)))], [], 53⟩
@[reducible] noncomputable def t138_31332 : List OSh := [(.norm, ⟨[(0, .lf (.d (.str))), (1, .lf (.d (.int .i64))), (6, .lf (.d (.int .i64))), (7, .lf (.d (.int .i64))), (26, .lf (.d (.int .i64))), (27, .lf (.d (.int .i64))), (39, .lf (.d (.bool)))], [], 53⟩)]
noncomputable def g138_31332 (y : s138_31332.Y) : Option (YS t138_31332) :=
(ix y.1.1 y.1.2.2.2.1).bind fun x741 =>
  bif (!(decide ((x741.toNat : Int) < (48 : Int)))) then
(ix y.1.1 y.1.2.2.2.1).bind fun x742 =>
  some (((y.1.1, (y.1.2.1, (y.1.2.2.1, (y.1.2.2.2.1, (y.1.2.2.2.2.1, (y.1.2.2.2.2.2.1, ((decide ((x742.toNat : Int) > (57 : Int))), ()))))))), ()))
else
  some (((y.1.1, (y.1.2.1, (y.1.2.2.1, (y.1.2.2.2.1, (y.1.2.2.2.2.1, (y.1.2.2.2.2.2.1, (true, ()))))))), ()))
theorem r138_31332 : ∀ y, g138_31332 y = pieceF (ctxWith c138 []) (codeAt (unloop (codeAt b138 1 122)) 244 31332) 31332 s138_31332 t138_31332 y := fun y => by kernel_rfl
theorem q138_31332 (H : CtxGood Tryz.prog c138) : FragOk Tryz.prog (codeAt (unloop (codeAt b138 1 122)) 244 31332) (fragOrc s138_31332 t138_31332 g138_31332) :=
  piece_at (fr := []) H (by kernel_rfl) frags_nil r138_31332
@[reducible] noncomputable def s138_122 : Shape := ⟨[(0, .lf (.d (.str))), (1, .lf (.d (.int .i64))), (6, .lf (.d (.int .i64))), (26, .lf (.d (.int .i64))), (27, .lf (.d (.int .i64)))], [], 53⟩
@[reducible] noncomputable def t138_122 : List OSh := [(.ret, ⟨[(4, .lf (.d (.int .i64))), (5, .lf (.d (.bool)))], [], 53⟩), (.exit 0, ⟨[(1, .lf (.d (.int .i64))), (6, .lf (.d (.int .i64)))], [], 53⟩)]
noncomputable def g138_122 (y : s138_122.Y) : Option (Sum s138_122.Y (YS t138_122)) :=
  bif (decide (y.1.2.2.2.2.1 < y.1.2.2.2.1)) then
(g138_31332 ((y.1.1, (y.1.2.1, (y.1.2.2.1, (y.1.2.2.2.2.1, (y.1.2.2.2.1, (y.1.2.2.2.2.1, ())))))), ())).bind fun r747 =>
  bif r747.1.2.2.2.2.2.2.1 then
  some (.inr (.inl (((0 : Int), (false, ())), ())))
else
(ix r747.1.1 r747.1.2.2.2.1).bind fun x748 =>
  some (.inl ((r747.1.1, (r747.1.2.1, ((IntKind.i64.wrap ((IntKind.i64.wrap (r747.1.2.2.1 * (10 : Int))) + (IntKind.i64.wrap (IntKind.u8.wrap ((x748.toNat : Int) - (48 : Int)))))), (r747.1.2.2.2.2.1, ((IntKind.i64.wrap (r747.1.2.2.2.2.2.1 + (1 : Int))), ()))))), ()))
else
  some (.inr (.inr ((y.1.2.1, (y.1.2.2.1, ())), ())))
theorem r138_122 : ∀ y, g138_122 y = roundF (ctxWith c138 [(31332, fragOrc s138_31332 t138_31332 g138_31332)]) (unloop (codeAt b138 1 122)) 122 s138_122 t138_122 y := fun y => by kernel_rfl
noncomputable def l138_122 : s138_122.Y → Option (YS t138_122) := loopF g138_122
theorem q138_122 (H : CtxGood Tryz.prog c138) : FragOk Tryz.prog (codeAt b138 1 122) (fragOrc s138_122 t138_122 l138_122) :=
  loop_at (fr := [(31332, fragOrc s138_31332 t138_31332 g138_31332)]) H (by kernel_rfl) (by kernel_rfl) ⟨q138_31332 H, trivial⟩ (fun y => iter_congr r138_122 y)
@[reducible] noncomputable def i138 : Shape := ⟨[(0, .lf (.d (.str))), (1, .lf (.d (.int .i64)))], [], 53⟩
@[reducible] noncomputable def o138 : Shape := ⟨[(4, .lf (.d (.int .i64))), (5, .lf (.d (.bool)))], [], 53⟩
noncomputable def f138 (a : i138.Y) : Option o138.Y :=
(g138_12 ((a.1.1, (a.1.2.1, ())), ())).bind fun r736 =>
  bif r736.1.2.2.1 then
  some (((0 : Int), (false, ())), ())
else
(l138_122 ((r736.1.1, (r736.1.2.1, ((0 : Int), ((r736.1.1.length : Int), ((0 : Int), ()))))), ())).bind fun r752 =>
(match r752 with
| .inl r753 =>
  some ((r753.1.1, (r753.1.2.1, ())), ())
| .inr r754 =>
  bif (decide (r754.1.2.1 > r754.1.1)) then
  some (((0 : Int), (false, ())), ())
else
  some ((r754.1.2.1, (true, ())), ()))
theorem e138 : ∀ a, f138 a = bodyF (ctxWith c138 [(12, fragOrc s138_12 t138_12 g138_12), (122, fragOrc s138_122 t138_122 l138_122)]) b138 i138 o138 a := fun a => by kernel_rfl
noncomputable def S138 : Summ := funSumm tt 53 i138 o138 [.tmp 4, .tmp 5] f138
theorem z138 (h : ∀ T, (tt T).ok Tryz.prog T) : SummOk Tryz.prog 138 S138 :=
  have H := k138 h
  fun_at (fn := Tryz.f138) (fr := [(12, fragOrc s138_12 t138_12 g138_12), (122, fragOrc s138_122 t138_122 l138_122)]) H (by kernel_rfl) (by kernel_rfl) (by kernel_rfl) (by kernel_rfl) (by kernel_rfl) ⟨q138_12 H, q138_122 H, trivial⟩ (fun y => ⟨_, rfl, rfl⟩) e138
end Go.Proofs

set_option maxRecDepth 100000
set_option linter.unusedVariables false
namespace Go.Proofs
open Go.Jk
-- 142 loop.example/jackstay/spec.l1Num
noncomputable def c142 : Ctx := { tt := tt, fs := fun n => match n with | _ => none }
theorem k142 (h : ∀ T, (tt T).ok Tryz.prog T) : CtxGood Tryz.prog c142 := ⟨⟨h⟩, fun g S hg => (by cases hg), tt_mo, fun _ _ h => (by cases h)⟩
noncomputable def b142 : Code := codeOf Tryz.f142
@[reducible] noncomputable def s142_3728 : Shape := ⟨[(0, .lf (.d (.str))), (3, .lf (.d (.int .i64))), (4, .lf (.d (.int .i64)))], [], 47⟩
@[reducible] noncomputable def t142_3728 : List OSh := [(.norm, ⟨[(0, .lf (.d (.str))), (3, .lf (.d (.int .i64))), (4, .lf (.d (.int .i64))), (24, .lf (.d (.bool)))], [], 47⟩)]
noncomputable def g142_3728 (y : s142_3728.Y) : Option (YS t142_3728) :=
(ix y.1.1 y.1.2.2.1).bind fun x168 =>
  bif (!(decide ((x168.toNat : Int) < (48 : Int)))) then
(ix y.1.1 y.1.2.2.1).bind fun x169 =>
  bif (!(decide ((x169.toNat : Int) > (57 : Int)))) then
  some (((y.1.1, (y.1.2.1, (y.1.2.2.1, ((decide (y.1.2.2.1 ≥ (6 : Int))), ())))), ()))
else
  some (((y.1.1, (y.1.2.1, (y.1.2.2.1, (true, ())))), ()))
else
  some (((y.1.1, (y.1.2.1, (y.1.2.2.1, (true, ())))), ()))
theorem r142_3728 : ∀ y, g142_3728 y = pieceF (ctxWith c142 []) (codeAt (unloop (codeAt b142 1 58)) 116 3728) 3728 s142_3728 t142_3728 y := fun y => by kernel_rfl
theorem q142_3728 (H : CtxGood Tryz.prog c142) : FragOk Tryz.prog (codeAt (unloop (codeAt b142 1 58)) 116 3728) (fragOrc s142_3728 t142_3728 g142_3728) :=
  piece_at (fr := []) H (by kernel_rfl) frags_nil r142_3728
@[reducible] noncomputable def s142_58 : Shape := ⟨[(0, .lf (.d (.str))), (3, .lf (.d (.int .i64))), (4, .lf (.d (.int .i64)))], [], 47⟩
@[reducible] noncomputable def t142_58 : List OSh := [(.ret, ⟨[(2, .lf (.d (.int .i64)))], [], 47⟩), (.exit 0, ⟨[(0, .lf (.d (.str))), (3, .lf (.d (.int .i64)))], [], 47⟩)]
noncomputable def g142_58 (y : s142_58.Y) : Option (Sum s142_58.Y (YS t142_58)) :=
  bif (decide (y.1.2.2.1 < (y.1.1.length : Int))) then
(g142_3728 ((y.1.1, (y.1.2.1, (y.1.2.2.1, ()))), ())).bind fun r174 =>
  bif r174.1.2.2.2.1 then
  some (.inr (.inl ((((-1) : Int), ()), ())))
else
(ix r174.1.1 r174.1.2.2.1).bind fun x175 =>
  some (.inl ((r174.1.1, ((IntKind.i64.wrap ((IntKind.i64.wrap (r174.1.2.1 * (10 : Int))) + (IntKind.i64.wrap (IntKind.u8.wrap ((x175.toNat : Int) - (48 : Int)))))), ((IntKind.i64.wrap (r174.1.2.2.1 + (1 : Int))), ()))), ()))
else
  some (.inr (.inr ((y.1.1, (y.1.2.1, ())), ())))
theorem r142_58 : ∀ y, g142_58 y = roundF (ctxWith c142 [(3728, fragOrc s142_3728 t142_3728 g142_3728)]) (unloop (codeAt b142 1 58)) 58 s142_58 t142_58 y := fun y => by kernel_rfl
noncomputable def l142_58 : s142_58.Y → Option (YS t142_58) := loopF g142_58
theorem q142_58 (H : CtxGood Tryz.prog c142) : FragOk Tryz.prog (codeAt b142 1 58) (fragOrc s142_58 t142_58 l142_58) :=
  loop_at (fr := [(3728, fragOrc s142_3728 t142_3728 g142_3728)]) H (by kernel_rfl) (by kernel_rfl) ⟨q142_3728 H, trivial⟩ (fun y => iter_congr r142_58 y)
@[reducible] noncomputable def s142_60 : Shape := ⟨[(0, .lf (.d (.str))), (3, .lf (.d (.int .i64)))], [], 47⟩
@[reducible] noncomputable def t142_60 : List OSh := [(.norm, ⟨[(3, .lf (.d (.int .i64))), (45, .lf (.d (.bool)))], [], 47⟩)]
noncomputable def g142_60 (y : s142_60.Y) : Option (YS t142_60) :=
  bif (!((y.1.1.length : Int) == (0 : Int))) then
  bif (decide ((y.1.1.length : Int) > (1 : Int))) then
(ix y.1.1 (0 : Int)).bind fun x190 =>
  some (((y.1.2.1, (((x190.toNat : Int) == (48 : Int)), ())), ()))
else
  some (((y.1.2.1, (false, ())), ()))
else
  some (((y.1.2.1, (true, ())), ()))
theorem r142_60 : ∀ y, g142_60 y = pieceF (ctxWith c142 []) (codeAt b142 1 60) 60 s142_60 t142_60 y := fun y => by kernel_rfl
theorem q142_60 (H : CtxGood Tryz.prog c142) : FragOk Tryz.prog (codeAt b142 1 60) (fragOrc s142_60 t142_60 g142_60) :=
  piece_at (fr := []) H (by kernel_rfl) frags_nil r142_60
@[reducible] noncomputable def i142 : Shape := ⟨[(0, .lf (.d (.str)))], [], 47⟩
@[reducible] noncomputable def o142 : Shape := ⟨[(2, .lf (.d (.int .i64)))], [], 47⟩
noncomputable def f142 (a : i142.Y) : Option o142.Y :=
(l142_58 ((a.1.1, ((0 : Int), ((0 : Int), ()))), ())).bind fun r186 =>
(match r186 with
| .inl r187 =>
  some ((r187.1.1, ()), ())
| .inr r188 =>
(g142_60 ((r188.1.1, (r188.1.2.1, ())), ())).bind fun r191 =>
  bif r191.1.2.1 then
  some ((((-1) : Int), ()), ())
else
  some ((r191.1.1, ()), ()))
theorem e142 : ∀ a, f142 a = bodyF (ctxWith c142 [(58, fragOrc s142_58 t142_58 l142_58), (60, fragOrc s142_60 t142_60 g142_60)]) b142 i142 o142 a := fun a => by kernel_rfl
noncomputable def S142 : Summ := funSumm tt 47 i142 o142 [.tmp 2] f142
theorem z142 (h : ∀ T, (tt T).ok Tryz.prog T) : SummOk Tryz.prog 142 S142 :=
  have H := k142 h
  fun_at (fn := Tryz.f142) (fr := [(58, fragOrc s142_58 t142_58 l142_58), (60, fragOrc s142_60 t142_60 g142_60)]) H (by kernel_rfl) (by kernel_rfl) (by kernel_rfl) (by kernel_rfl) (by kernel_rfl) ⟨q142_58 H, q142_60 H, trivial⟩ (fun y => ⟨_, rfl, rfl⟩) e142
end Go.Proofs

set_option maxRecDepth 100000
set_option linter.unusedVariables false
namespace Go.Proofs
open Go.Jk
-- 77 loop.example/jackstay/impl.packNameOk
noncomputable def c77 : Ctx := { tt := tt, fs := fun n => match n with | _ => none }
theorem k77 (h : ∀ T, (tt T).ok Tryz.prog T) : CtxGood Tryz.prog c77 := ⟨⟨h⟩, fun g S hg => (by cases hg), tt_mo, fun _ _ h => (by cases h)⟩
noncomputable def b77 : Code := codeOf Tryz.f77
@[reducible] noncomputable def s77_12 : Shape := ⟨[(0, .lf (.d (.str)))], [], 49⟩
@[reducible] noncomputable def t77_12 : List OSh := [(.norm, ⟨[(0, .lf (.d (.str))), (20, .lf (.d (.bool)))], [], 49⟩)]
noncomputable def g77_12 (y : s77_12.Y) : Option (YS t77_12) :=
  bif (!(y.1.1 == ([] : Str))) then
  bif (!(decide ((y.1.1.length : Int) > (10 : Int)))) then
(ix y.1.1 (0 : Int)).bind fun x700 =>
  bif (!(decide ((x700.toNat : Int) < (97 : Int)))) then
(ix y.1.1 (0 : Int)).bind fun x701 =>
  some (((y.1.1, ((decide ((x701.toNat : Int) > (122 : Int))), ())), ()))
else
  some (((y.1.1, (true, ())), ()))
else
  some (((y.1.1, (true, ())), ()))
else
  some (((y.1.1, (true, ())), ()))
theorem r77_12 : ∀ y, g77_12 y = pieceF (ctxWith c77 []) (codeAt b77 1 12) 12 s77_12 t77_12 y := fun y => by kernel_rfl
theorem q77_12 (H : CtxGood Tryz.prog c77) : FragOk Tryz.prog (codeAt b77 1 12) (fragOrc s77_12 t77_12 g77_12) :=
  piece_at (fr := []) H (by kernel_rfl) frags_nil r77_12
@[reducible] noncomputable def s77_7474 : Shape := ⟨[(0, .lf (.d (.str))), (3, .lf (.d (.int .i64))), (22, .lf (.d (.int .i64))), (23, .lf (.d (.int .i64)))], [], 49⟩
@[reducible] noncomputable def t77_7474 : List OSh := [(.norm, ⟨[(0, .lf (.d (.str))), (22, .lf (.d (.int .i64))), (23, .lf (.d (.int .i64))), (47, .lf (.d (.bool)))], [], 49⟩)]
noncomputable def g77_7474 (y : s77_7474.Y) : Option (YS t77_7474) :=
(ix y.1.1 y.1.2.1).bind fun x718 =>
  bif (!(decide ((x718.toNat : Int) < (97 : Int)))) then
(ix y.1.1 y.1.2.1).bind fun x719 =>
  bif (decide ((x719.toNat : Int) > (122 : Int))) then
(ix y.1.1 y.1.2.1).bind fun x720 =>
  bif (!(decide ((x720.toNat : Int) < (48 : Int)))) then
(ix y.1.1 y.1.2.1).bind fun x721 =>
  some (((y.1.1, (y.1.2.2.1, (y.1.2.2.2.1, ((decide ((x721.toNat : Int) > (57 : Int))), ())))), ()))
else
  some (((y.1.1, (y.1.2.2.1, (y.1.2.2.2.1, (true, ())))), ()))
else
  some (((y.1.1, (y.1.2.2.1, (y.1.2.2.2.1, (false, ())))), ()))
else
(ix y.1.1 y.1.2.1).bind fun x722 =>
  bif (!(decide ((x722.toNat : Int) < (48 : Int)))) then
(ix y.1.1 y.1.2.1).bind fun x723 =>
  some (((y.1.1, (y.1.2.2.1, (y.1.2.2.2.1, ((decide ((x723.toNat : Int) > (57 : Int))), ())))), ()))
else
  some (((y.1.1, (y.1.2.2.1, (y.1.2.2.2.1, (true, ())))), ()))
theorem r77_7474 : ∀ y, g77_7474 y = pieceF (ctxWith c77 []) (codeAt (unloop (codeAt b77 1 58)) 116 7474) 7474 s77_7474 t77_7474 y := fun y => by kernel_rfl
theorem q77_7474 (H : CtxGood Tryz.prog c77) : FragOk Tryz.prog (codeAt (unloop (codeAt b77 1 58)) 116 7474) (fragOrc s77_7474 t77_7474 g77_7474) :=
  piece_at (fr := []) H (by kernel_rfl) frags_nil r77_7474
@[reducible] noncomputable def s77_58 : Shape := ⟨[(0, .lf (.d (.str))), (22, .lf (.d (.int .i64))), (23, .lf (.d (.int .i64)))], [], 49⟩
@[reducible] noncomputable def t77_58 : List OSh := [(.ret, ⟨[(2, .lf (.d (.bool)))], [], 49⟩), (.exit 0, ⟨[], [], 49⟩)]
noncomputable def g77_58 (y : s77_58.Y) : Option (Sum s77_58.Y (YS t77_58)) :=
  bif (decide (y.1.2.2.1 < y.1.2.1)) then
(g77_7474 ((y.1.1, (y.1.2.2.1, (y.1.2.1, (y.1.2.2.1, ())))), ())).bind fun r725 =>
  bif r725.1.2.2.2.1 then
  some (.inr (.inl ((false, ()), ())))
else
  some (.inl ((r725.1.1, (r725.1.2.1, ((IntKind.i64.wrap (r725.1.2.2.1 + (1 : Int))), ()))), ()))
else
  some (.inr (.inr ((), ())))
theorem r77_58 : ∀ y, g77_58 y = roundF (ctxWith c77 [(7474, fragOrc s77_7474 t77_7474 g77_7474)]) (unloop (codeAt b77 1 58)) 58 s77_58 t77_58 y := fun y => by kernel_rfl
noncomputable def l77_58 : s77_58.Y → Option (YS t77_58) := loopF g77_58
theorem q77_58 (H : CtxGood Tryz.prog c77) : FragOk Tryz.prog (codeAt b77 1 58) (fragOrc s77_58 t77_58 l77_58) :=
  loop_at (fr := [(7474, fragOrc s77_7474 t77_7474 g77_7474)]) H (by kernel_rfl) (by kernel_rfl) ⟨q77_7474 H, trivial⟩ (fun y => iter_congr r77_58 y)
@[reducible] noncomputable def i77 : Shape := ⟨[(0, .lf (.d (.str)))], [], 49⟩
@[reducible] noncomputable def o77 : Shape := ⟨[(2, .lf (.d (.bool)))], [], 49⟩
noncomputable def f77 (a : i77.Y) : Option o77.Y :=
(g77_12 ((a.1.1, ()), ())).bind fun r705 =>
  bif r705.1.2.1 then
  some ((false, ()), ())
else
(l77_58 ((r705.1.1, ((r705.1.1.length : Int), ((0 : Int), ()))), ())).bind fun r726 =>
(match r726 with
| .inl r727 =>
  some ((r727.1.1, ()), ())
| .inr r728 =>
  some ((true, ()), ()))
theorem e77 : ∀ a, f77 a = bodyF (ctxWith c77 [(12, fragOrc s77_12 t77_12 g77_12), (58, fragOrc s77_58 t77_58 l77_58)]) b77 i77 o77 a := fun a => by kernel_rfl
noncomputable def S77 : Summ := funSumm tt 49 i77 o77 [.tmp 2] f77
theorem z77 (h : ∀ T, (tt T).ok Tryz.prog T) : SummOk Tryz.prog 77 S77 :=
  have H := k77 h
  fun_at (fn := Tryz.f77) (fr := [(12, fragOrc s77_12 t77_12 g77_12), (58, fragOrc s77_58 t77_58 l77_58)]) H (by kernel_rfl) (by kernel_rfl) (by kernel_rfl) (by kernel_rfl) (by kernel_rfl) ⟨q77_12 H, q77_58 H, trivial⟩ (fun y => ⟨_, rfl, rfl⟩) e77
end Go.Proofs

set_option maxRecDepth 100000
set_option linter.unusedVariables false
namespace Go.Proofs
open Go.Jk
-- 84 loop.example/jackstay/spec.l3Pack
noncomputable def c84 : Ctx := { tt := tt, fs := fun n => match n with | 110 => some S110 | _ => none }
theorem k84 (h : ∀ T, (tt T).ok Tryz.prog T) (h110 : SummOk Tryz.prog 110 S110) : CtxGood Tryz.prog c84 := ⟨⟨h⟩, fun g S hg => (by
  simp only [c84] at hg
  split at hg
  · cases hg; exact h110
  · cases hg), tt_mo, fun _ _ h => (by cases h)⟩
noncomputable def b84 : Code := codeOf Tryz.f84
@[reducible] noncomputable def s84_840 : Shape := ⟨[(0, .lf (.d (.str))), (3, .lf (.d (.int .i64)))], [], 42⟩
@[reducible] noncomputable def t84_840 : List OSh := [(.norm, ⟨[(0, .lf (.d (.str))), (3, .lf (.d (.int .i64))), (4, .lf (.d (.bool)))], [], 42⟩)]
noncomputable def g84_840 (y : s84_840.Y) : Option (YS t84_840) :=
(ix y.1.1 y.1.2.1).bind fun x110 =>
  bif (decide ((x110.toNat : Int) ≥ (97 : Int))) then
(ix y.1.1 y.1.2.1).bind fun x111 =>
  some (((y.1.1, (y.1.2.1, ((decide ((x111.toNat : Int) ≤ (122 : Int))), ()))), ()))
else
  some (((y.1.1, (y.1.2.1, (false, ()))), ()))
theorem r84_840 : ∀ y, g84_840 y = pieceF (ctxWith c84 []) (codeAt (unloop (codeAt b84 1 26)) 52 840) 840 s84_840 t84_840 y := fun y => by kernel_rfl
theorem q84_840 (H : CtxGood Tryz.prog c84) : FragOk Tryz.prog (codeAt (unloop (codeAt b84 1 26)) 52 840) (fragOrc s84_840 t84_840 g84_840) :=
  piece_at (fr := []) H (by kernel_rfl) frags_nil r84_840
@[reducible] noncomputable def s84_1682 : Shape := ⟨[(0, .lf (.d (.str))), (3, .lf (.d (.int .i64))), (4, .lf (.d (.bool)))], [], 42⟩
@[reducible] noncomputable def t84_1682 : List OSh := [(.norm, ⟨[(0, .lf (.d (.str))), (3, .lf (.d (.int .i64))), (38, .lf (.d (.bool)))], [], 42⟩)]
noncomputable def g84_1682 (y : s84_1682.Y) : Option (YS t84_1682) :=
  bif (!y.1.2.2.1) then
  bif (!(y.1.2.1 == (0 : Int))) then
(ix y.1.1 y.1.2.1).bind fun x118 =>
  bif (!(decide ((x118.toNat : Int) < (48 : Int)))) then
(ix y.1.1 y.1.2.1).bind fun x119 =>
  some (((y.1.1, (y.1.2.1, ((decide ((x119.toNat : Int) > (57 : Int))), ()))), ()))
else
  some (((y.1.1, (y.1.2.1, (true, ()))), ()))
else
  some (((y.1.1, (y.1.2.1, (true, ()))), ()))
else
  some (((y.1.1, (y.1.2.1, (false, ()))), ()))
theorem r84_1682 : ∀ y, g84_1682 y = pieceF (ctxWith c84 []) (codeAt (unloop (codeAt b84 1 26)) 52 1682) 1682 s84_1682 t84_1682 y := fun y => by kernel_rfl
theorem q84_1682 (H : CtxGood Tryz.prog c84) : FragOk Tryz.prog (codeAt (unloop (codeAt b84 1 26)) 52 1682) (fragOrc s84_1682 t84_1682 g84_1682) :=
  piece_at (fr := []) H (by kernel_rfl) frags_nil r84_1682
@[reducible] noncomputable def s84_26 : Shape := ⟨[(0, .lf (.d (.str))), (3, .lf (.d (.int .i64)))], [], 42⟩
@[reducible] noncomputable def t84_26 : List OSh := [(.ret, ⟨[(2, .lf (.d (.bool)))], [], 42⟩), (.exit 0, ⟨[(0, .lf (.d (.str)))], [], 42⟩)]
noncomputable def g84_26 (y : s84_26.Y) : Option (Sum s84_26.Y (YS t84_26)) :=
  bif (decide (y.1.2.1 < (y.1.1.length : Int))) then
(g84_840 ((y.1.1, (y.1.2.1, ())), ())).bind fun r121 =>
(g84_1682 ((r121.1.1, (r121.1.2.1, (r121.1.2.2.1, ()))), ())).bind fun r122 =>
  bif r122.1.2.2.1 then
  some (.inr (.inl ((false, ()), ())))
else
  some (.inl ((r122.1.1, ((IntKind.i64.wrap (r122.1.2.1 + (1 : Int))), ())), ()))
else
  some (.inr (.inr ((y.1.1, ()), ())))
theorem r84_26 : ∀ y, g84_26 y = roundF (ctxWith c84 [(840, fragOrc s84_840 t84_840 g84_840), (1682, fragOrc s84_1682 t84_1682 g84_1682)]) (unloop (codeAt b84 1 26)) 26 s84_26 t84_26 y := fun y => by kernel_rfl
noncomputable def l84_26 : s84_26.Y → Option (YS t84_26) := loopF g84_26
theorem q84_26 (H : CtxGood Tryz.prog c84) : FragOk Tryz.prog (codeAt b84 1 26) (fragOrc s84_26 t84_26 l84_26) :=
  loop_at (fr := [(840, fragOrc s84_840 t84_840 g84_840), (1682, fragOrc s84_1682 t84_1682 g84_1682)]) H (by kernel_rfl) (by kernel_rfl) ⟨q84_840 H, q84_1682 H, trivial⟩ (fun y => iter_congr r84_26 y)
@[reducible] noncomputable def i84 : Shape := ⟨[(0, .lf (.d (.str)))], [], 42⟩
@[reducible] noncomputable def o84 : Shape := ⟨[(2, .lf (.d (.bool)))], [], 42⟩
noncomputable def f84 (a : i84.Y) : Option o84.Y :=
(l84_26 ((a.1.1, ((0 : Int), ())), ())).bind fun r133 =>
(match r133 with
| .inl r134 =>
  some ((r134.1.1, ()), ())
| .inr r135 =>
(f110 (((r135.1.1.length : Int), ((1 : Int), ((10 : Int), ()))), ())).bind fun r136 =>
  some ((r136.1.1, ()), ()))
theorem e84 : ∀ a, f84 a = bodyF (ctxWith c84 [(26, fragOrc s84_26 t84_26 l84_26)]) b84 i84 o84 a := fun a => by kernel_rfl
noncomputable def S84 : Summ := funSumm tt 42 i84 o84 [.tmp 2] f84
theorem z84 (h : ∀ T, (tt T).ok Tryz.prog T) (h110 : SummOk Tryz.prog 110 S110) : SummOk Tryz.prog 84 S84 :=
  have H := k84 h h110
  fun_at (fn := Tryz.f84) (fr := [(26, fragOrc s84_26 t84_26 l84_26)]) H (by kernel_rfl) (by kernel_rfl) (by kernel_rfl) (by kernel_rfl) (by kernel_rfl) ⟨q84_26 H, trivial⟩ (fun y => ⟨_, rfl, rfl⟩) e84
end Go.Proofs

set_option maxRecDepth 100000
set_option linter.unusedVariables false
set_option linter.unusedSimpArgs false
namespace Go.Proofs
open Go.Jk

/- Letters. -/
def lowB (b : UInt8) : Bool := decide ((97 : Int) ≤ (b.toNat : Int)) && decide ((b.toNat : Int) ≤ 122)
def digB (b : UInt8) : Bool := decide ((48 : Int) ≤ (b.toNat : Int)) && decide ((b.toNat : Int) ≤ 57)
def within (n lo hi : Int) : Bool := decide (lo ≤ n) && decide (n ≤ hi)

theorem v_l1In (a) : f110 a = some ((within a.1.1 a.1.2.1 a.1.2.2.1, ()), ()) := by
  simp only [f110, within, ge_iff_le]
  cases decide (a.1.2.1 ≤ a.1.1) <;> rfl

/-- A package's name. -/
def pkName (s : Str) : Bool := allI (fun i x => lowB x || (!(i == 0) && digB x)) 0 s && within s.length 1 10

theorem v_l3Pack (a) (hs : Sm a.1.1.length) : f84 a = some ((pkName a.1.1, ()), ()) := by
  obtain ⟨⟨s, u⟩, u'⟩ := a
  have key : l84_26 ((s, ((0 : Int), ())), ()) = some (bif allI (fun i x => lowB x || (!(i == 0) && digB x)) 0 s then .inr ((s, ()), ()) else .inl ((false, ()), ())) := by
    refine loop_all g84_26 s (fun i => ((s, ((i : Int), ())), ())) _ _ _ (fun i x hx => ?_) ?_
    · have hi := get_lt hx
      have hw : Sm i := by unfold Sm at *; simp only at hs; omega
      simp only [g84_26, lt_dec hi, cond_true, g84_840, g84_1682, ix_nat, hx, Option.bind_some, wrap_add1 hw, ge_iff_le, beq0]
      unfold lowB digB
      by_cases h1 : (97 : Int) ≤ (x.toNat : Int) <;> by_cases h2 : (x.toNat : Int) ≤ 122 <;> cases h3 : (i == 0) <;> by_cases h4 : (48 : Int) ≤ (x.toNat : Int) <;> by_cases h5 : (x.toNat : Int) ≤ 57 <;> simp [h1, h2, h3, h4, h5, wrap_add1 hw, ix_nat, hx, beq0, dlt, dgt, -beq_iff_eq]
    · simp only [g84_26, nlt_dec, cond_false]
  simp only [f84, key, Option.bind_some]
  unfold pkName
  cases allI (fun i x => lowB x || (!(i == 0) && digB x)) 0 s with
  | false => rfl
  | true => simp only [cond_true, v_l1In, Option.bind_some, Bool.true_and]

theorem pkName_cons (b : UInt8) (r : Str) : pkName (b :: r) = (lowB b && (b :: r).all (fun x => lowB x || digB x) && decide (((b :: r).length : Int) ≤ 10)) := by
  unfold pkName
  simp only [allI, List.all_cons]
  have : allI (fun i x => lowB x || (!(i == 0) && digB x)) (0 + 1) r = r.all (fun x => lowB x || digB x) := by
    rw [allI_congr (ok' := fun _ x => lowB x || digB x) r 1 (fun i x hi _ => by have : (i == 0) = false := by simp; omega
                                                                                rw [this]; simp), allI_all]
  rw [this]
  unfold within
  have : decide ((1 : Int) ≤ ((b :: r).length : Int)) = true := by simp only [List.length_cons, decide_eq_true_eq]; omega
  rw [this]
  cases lowB b <;> simp

theorem v_packNameOk (a) (hs : Sm a.1.1.length) : f77 a = some ((pkName a.1.1, ()), ()) := by
  obtain ⟨⟨s, u⟩, u'⟩ := a
  have key : l77_58 ((s, ((s.length : Int), ((0 : Int), ()))), ()) = some (bif allI (fun _ x => lowB x || digB x) 0 s then .inr ((), ()) else .inl ((false, ()), ())) := by
    refine loop_all g77_58 s (fun i => ((s, ((s.length : Int), ((i : Int), ()))), ())) _ _ _ (fun i x hx => ?_) ?_
    · have hi := get_lt hx
      have hw : Sm i := by unfold Sm at *; simp only at hs; omega
      simp only [g77_58, lt_dec hi, cond_true, g77_7474, ix_nat, hx, Option.bind_some, wrap_add1 hw, dlt, dgt]
      unfold lowB digB
      by_cases h1 : (97 : Int) ≤ (x.toNat : Int) <;> by_cases h2 : (x.toNat : Int) ≤ 122 <;> by_cases h4 : (48 : Int) ≤ (x.toNat : Int) <;> by_cases h5 : (x.toNat : Int) ≤ 57 <;> simp [h1, h2, h4, h5, wrap_add1 hw, ix_nat, hx, dlt, dgt]
    · simp only [g77_58, nlt_dec, cond_false]
  rw [allI_all] at key
  cases s with
  | nil => rfl
  | cons b r =>
    have hb : ix (b :: r) 0 = some b := rfl
    simp only [f77, g77_12, hb, Option.bind_some, dlt, dgt, pkName_cons]
    have he : ((b :: r) == ([] : Str)) = false := rfl
    have hl : lowB b = (decide ((97 : Int) ≤ (b.toNat : Int)) && decide ((b.toNat : Int) ≤ 122)) := rfl
    rw [he, hl]
    by_cases h1 : (97 : Int) ≤ (b.toNat : Int) <;> by_cases h2 : (b.toNat : Int) ≤ 122 <;> by_cases h3 : ((b :: r).length : Int) ≤ 10 <;>
      simp only [h1, h2, h3, decide_true, decide_false, Bool.not_true, Bool.not_false, cond_true, cond_false, Option.bind_some, Bool.true_and, Bool.and_true, Bool.false_and, Bool.and_false]
    rw [key]
    generalize List.all (b :: r) (fun x => lowB x || digB x) = q
    cases q <;> rfl

/- Numbers. -/
def stepN (n : Int) (b : UInt8) : Int := n * 10 + ((b.toNat : Int) - 48)
def valN (s : Str) : Int := s.foldl stepN 0
def leadB : Str → Bool
  | b :: _ :: _ => (b.toNat : Int) == 48
  | _ => false
def numB (s : Str) : Bool := s.all digB && !(s == []) && !leadB s && decide (s.length ≤ 6) && decide (valN s ≤ 999)

theorem digB_bounds {b : UInt8} (h : digB b = true) : 48 ≤ (b.toNat : Int) ∧ (b.toNat : Int) ≤ 57 := by
  simpa [digB] using h

theorem wrapU8 {b : UInt8} (h : digB b = true) : IntKind.u8.wrap ((b.toNat : Int) - 48) = (b.toNat : Int) - 48 := by
  have := digB_bounds h
  rw [IntKind.wrap_u8]; omega

theorem step_bounds {n : Int} {b : UInt8} {i : Nat} (h : digB b = true) (h0 : 0 ≤ n) (h1 : n < 10 ^ i) : 0 ≤ stepN n b ∧ stepN n b < 10 ^ (i + 1) := by
  have := digB_bounds h
  unfold stepN
  rw [Int.pow_succ]
  omega
theorem pow_le9 {i : Nat} (h : i ≤ 9) : (10 : Int) ^ i ≤ 1000000000 := by
  have : i = 0 ∨ i = 1 ∨ i = 2 ∨ i = 3 ∨ i = 4 ∨ i = 5 ∨ i = 6 ∨ i = 7 ∨ i = 8 ∨ i = 9 := by omega
  rcases this with rfl | rfl | rfl | rfl | rfl | rfl | rfl | rfl | rfl | rfl <;> decide
theorem step_wrap {n : Int} {b : UInt8} {i : Nat} (h : digB b = true) (hi : i ≤ 8) (h0 : 0 ≤ n) (h1 : n < 10 ^ i) :
    IntKind.i64.wrap (IntKind.i64.wrap (n * 10) + IntKind.i64.wrap (IntKind.u8.wrap ((b.toNat : Int) - 48))) = stepN n b := by
  have hd := digB_bounds h
  have hp := pow_le9 (show i ≤ 9 by omega)
  rw [wrapU8 h, wrap_of (n := n * 10) (by omega) (by omega), wrap_of (n := (b.toNat : Int) - 48) (by omega) (by omega), wrap_of (by omega) (by omega)]
  rfl

theorem v_l1Num (a) (hs : Sm a.1.1.length) : f142 a = some ((bif a.1.1.all digB && decide (a.1.1.length ≤ 6) && !(a.1.1 == []) && !leadB a.1.1 then valN a.1.1 else -1, ()), ()) := by
  obtain ⟨⟨s, u⟩, u'⟩ := a
  have key : l142_58 ((s, ((0 : Int), ((0 : Int), ()))), ()) = some (bif allI (fun i x => digB x && decide (i < 6)) 0 s then .inr ((s, (valN s, ())), ()) else .inl ((((-1) : Int), ()), ())) := by
    have := loop_inv g142_58 s (fun i n => ((s, (n, ((i : Int), ()))), ())) (fun i x n => some (bif digB x && decide (i < 6) then .inl (stepN n x) else .inr (.inl ((((-1) : Int), ()), ())))) (fun n => .inr ((s, (n, ())), ()))
      (fun i n => 0 ≤ n ∧ n < 10 ^ i ∧ (i ≤ 6)) (0 : Int) ⟨by decide, by decide, by decide⟩ (fun i x n hx hI => ?_) (fun n _ => ?_)
    · exact this.trans (by rw [foldB_guard]; rfl)
    · have hi := get_lt hx
      have hw : Sm i := by unfold Sm at *; simp only at hs; omega
      obtain ⟨h0, h1, h6⟩ := hI
      refine ⟨?_, fun s' h' => ?_⟩
      · simp only [g142_58, lt_dec hi, cond_true, g142_3728, ix_nat, hx, Option.bind_some, wrap_add1 hw, dlt, dgt, dge]
        have hsix : decide ((6 : Int) ≤ (i : Int)) = !decide (i < 6) := by by_cases h : i < 6 <;> simp [h] <;> omega
        rw [hsix]
        cases hd : digB x with
        | false =>
          unfold digB at hd
          by_cases h4 : (48 : Int) ≤ (x.toNat : Int) <;> by_cases h5 : (x.toNat : Int) ≤ 57 <;> simp [h4, h5] at hd ⊢
        | true =>
          obtain ⟨h4, h5⟩ := digB_bounds hd
          cases hq : decide (i < 6) with
          | false => simp [h4, h5]
          | true =>
            have hq : i < 6 := by simpa using hq
            have := step_wrap (i := i) hd (by omega) h0 h1
            simp only [h4, h5, decide_true, Bool.not_true, Bool.not_false, cond_true, cond_false, Option.bind_some, ix_nat, hx, this, wrap_add1 hw, Bool.and_true, Option.map_some]
      · simp only [Option.some.injEq] at h'
        cases hq : (digB x && decide (i < 6)) with
        | false => rw [hq] at h'; cases h'
        | true =>
          rw [hq] at h'
          simp only [cond_true, Sum.inl.injEq] at h'
          simp only [Bool.and_eq_true, decide_eq_true_eq] at hq
          subst h'
          have := step_bounds hq.1 h0 h1
          exact ⟨this.1, this.2, by omega⟩
    · simp only [g142_58, nlt_dec, cond_false]
  rw [allI_and, allI_all, allI_lt] at key
  simp only [f142, key, Option.bind_some]
  cases s with
  | nil => rfl
  | cons b r =>
    have hb : ix (b :: r) 0 = some b := rfl
    have he : ((b :: r) == ([] : Str)) = false := rfl
    have hz : (((b :: r).length : Int) == 0) = false := by simp only [List.length_cons, beq_eq_false_iff_ne, ne_eq]; omega
    have hl : decide (((b :: r).length : Int) > 1) = !(r == []) := by cases r <;> simp; omega
    simp only [List.isEmpty_cons, Bool.false_or, Nat.zero_add, he, Bool.not_false, Bool.and_true]
    cases hq : (List.all (b :: r) digB && decide ((b :: r).length ≤ 6)) with
    | false => rfl
    | true =>
      simp only [cond_true, g142_60, hz, Bool.not_false, hl, hb, Option.bind_some, Bool.true_and]
      cases r with
      | nil => rfl
      | cons c r =>
        have : ((c :: r) == ([] : Str)) = false := rfl
        rw [this]
        simp only [Bool.not_false, cond_true, Option.bind_some, leadB]
        cases ((b.toNat : Int) == 48) <;> rfl

theorem val_lower : ∀ (r : Str) (n : Int) (k : Nat), r.all digB = true → 0 ≤ n → 10 ^ k ≤ n → 10 ^ (k + r.length) ≤ r.foldl stepN n := by
  intro r
  induction r with
  | nil => intro n k _ _ h; exact h
  | cons b r ih =>
    intro n k hd h0 h
    simp only [List.all_cons, Bool.and_eq_true] at hd
    have hb := digB_bounds hd.1
    have hs : 10 ^ (k + 1) ≤ stepN n b := by unfold stepN; rw [Int.pow_succ]; omega
    have := ih (stepN n b) (k + 1) hd.2 (by unfold stepN; omega) hs
    simp only [List.length_cons, List.foldl_cons]
    rw [show k + (r.length + 1) = k + 1 + r.length by omega]
    exact this

theorem pow10_ge {n : Nat} (h : 6 ≤ n) : (1000000 : Int) ≤ 10 ^ n := by
  induction n with
  | zero => omega
  | succ n ih =>
    by_cases h6 : 6 ≤ n
    · have := ih h6; rw [Int.pow_succ]; omega
    · have : n = 5 := by omega
      subst this; decide
theorem val_big {s : Str} (hd : s.all digB = true) (hl : leadB s = false) (h7 : 7 ≤ s.length) : 999 < valN s := by
  match s, h7 with
  | b :: c :: r, h7 =>
    simp only [leadB, beq_eq_false_iff_ne, ne_eq] at hl
    simp only [List.all_cons, Bool.and_eq_true] at hd
    have hb := digB_bounds hd.1
    have hc := digB_bounds hd.2.1
    have hs : (10 : Int) ^ 0 ≤ stepN 0 b := by unfold stepN; simp; omega
    have := val_lower (c :: r) (stepN 0 b) 0 (by simp [hd.2.1, hd.2.2]) (by unfold stepN; omega) hs
    have h2 : (1000000 : Int) ≤ 10 ^ (0 + (c :: r).length) := pow10_ge (by simp only [List.length_cons] at h7 ⊢; omega)
    show 999 < List.foldl stepN (stepN 0 b) (c :: r)
    omega

theorem v_number (a) (hs : Sm a.1.1.length) (h9 : a.1.2.1 = 999) : f138 a = some ((bif numB a.1.1 then valN a.1.1 else 0, (numB a.1.1, ())), ()) := by
  obtain ⟨⟨s, m, u⟩, u'⟩ := a
  obtain rfl : m = 999 := h9
  have key : s.length ≤ 9 → l138_122 ((s, ((999 : Int), ((0 : Int), ((s.length : Int), ((0 : Int), ()))))), ()) = some (bif allI (fun i x => digB x) 0 s then .inr (((999 : Int), (valN s, ())), ()) else .inl (((0 : Int), (false, ())), ())) := by
    intro h9
    have := loop_inv g138_122 s (fun i n => ((s, ((999 : Int), (n, ((s.length : Int), ((i : Int), ()))))), ())) (fun i x n => some (bif digB x then .inl (stepN n x) else .inr (.inl (((0 : Int), (false, ())), ())))) (fun n => .inr (((999 : Int), (n, ())), ()))
      (fun i n => 0 ≤ n ∧ n < 10 ^ i ∧ (i ≤ 9)) (0 : Int) ⟨by decide, by decide, by decide⟩ (fun i x n hx hI => ?_) (fun n _ => ?_)
    · exact this.trans (by rw [foldB_guard]; rfl)
    · have hi := get_lt hx
      have hw : Sm i := by unfold Sm at *; simp only at hs; omega
      obtain ⟨h0, h1, h6⟩ := hI
      refine ⟨?_, fun s' h' => ?_⟩
      · simp only [g138_122, lt_dec hi, cond_true, g138_31332, ix_nat, hx, Option.bind_some, wrap_add1 hw, dlt, dgt, dge]
        cases hd : digB x with
        | false =>
          unfold digB at hd
          by_cases h4 : (48 : Int) ≤ (x.toNat : Int) <;> by_cases h5 : (x.toNat : Int) ≤ 57 <;> simp [h4, h5] at hd ⊢
        | true =>
          obtain ⟨h4, h5⟩ := digB_bounds hd
          have := step_wrap (i := i) hd (by omega) h0 h1
          simp only [h4, h5, decide_true, Bool.not_true, Bool.not_false, cond_true, cond_false, Option.bind_some, ix_nat, hx, this, wrap_add1 hw, Bool.and_true, Option.map_some]
      · simp only [Option.some.injEq] at h'
        cases hq : digB x with
        | false => rw [hq] at h'; cases h'
        | true =>
          rw [hq] at h'
          simp only [cond_true, Sum.inl.injEq] at h'
          subst h'
          have := step_bounds hq h0 h1
          exact ⟨this.1, this.2, by omega⟩
    · simp only [g138_122, nlt_dec, cond_false]
  rw [allI_all] at key
  cases s with
  | nil => rfl
  | cons b r =>
    have hb : ix (b :: r) 0 = some b := rfl
    have he : ((b :: r) == ([] : Str)) = false := rfl
    have hl : decide (((b :: r).length : Int) > 1) = !(r == []) := by cases r <;> simp; omega
    have h9 : decide (((b :: r).length : Int) > 9) = !decide ((b :: r).length ≤ 9) := by by_cases h : (b :: r).length ≤ 9 <;> simp only [h, decide_true, decide_false, Bool.not_true, Bool.not_false, decide_eq_true_eq, decide_eq_false_iff_not] <;> omega
    have hlead : leadB (b :: r) = (!(r == []) && (b.toNat : Int) == 48) := by cases r <;> rfl
    simp only [f138, g138_12, he, hl, h9, Bool.not_false, cond_true, Bool.not_not, hb, Option.bind_some]
    have fin : (b :: r).length ≤ 9 → leadB (b :: r) = false → ((l138_122 ((b :: r, ((999 : Int), ((0 : Int), (((b :: r).length : Int), ((0 : Int), ()))))), ())).bind fun r752 => match r752 with
        | .inl r753 => some ((r753.1.1, (r753.1.2.1, ())), ())
        | .inr r754 => bif decide (r754.1.2.1 > r754.1.1) then some (((0 : Int), (false, ())), ()) else some ((r754.1.2.1, (true, ())), ())) =
        some ((bif numB (b :: r) then valN (b :: r) else 0, (numB (b :: r), ())), ()) := by
      intro h9 hlf
      rw [key h9]
      unfold numB
      rw [he, hlf]
      cases hd : List.all (b :: r) digB with
      | false => rfl
      | true =>
        simp only [cond_true, Option.bind_some, Bool.not_false, Bool.true_and, dgt]
        by_cases h6 : (b :: r).length ≤ 6
        · simp only [h6, decide_true, Bool.true_and]
          cases decide (valN (b :: r) ≤ 999) <;> rfl
        · have := val_big hd hlf (by omega)
          have : decide (valN (b :: r) ≤ 999) = false := by simp only [decide_eq_false_iff_not]; omega
          rw [this]
          simp only [h6, decide_false, Bool.false_and]
          rfl
    by_cases hq : (b :: r).length ≤ 9
    · simp only [hq, decide_true, cond_true]
      cases hr : (r == []) with
      | true =>
        simp only [Bool.not_true, cond_false, Option.bind_some]
        exact fin hq (by rw [hlead, hr]; rfl)
      | false =>
        simp only [Bool.not_false, cond_true, Option.bind_some]
        cases h48 : ((b.toNat : Int) == 48) with
        | true =>
          have : numB (b :: r) = false := by unfold numB; rw [hlead, hr, h48]; simp
          rw [this]; rfl
        | false =>
          simp only [cond_false]
          exact fin hq (by rw [hlead, hr, h48]; rfl)
    · have : numB (b :: r) = false := by
        unfold numB
        have : decide ((b :: r).length ≤ 6) = false := by simp only [decide_eq_false_iff_not]; omega
        rw [this]; simp
      simp only [hq, decide_false, cond_false, Option.bind_some, cond_true, this]
end Go.Proofs

set_option maxRecDepth 100000
set_option linter.unusedVariables false
namespace Go.Proofs
open Go.Jk
-- 141 loop.example/jackstay/spec.l1Cut
noncomputable def c141 : Ctx := { tt := tt, fs := fun n => match n with | _ => none }
theorem k141 (h : ∀ T, (tt T).ok Tryz.prog T) : CtxGood Tryz.prog c141 := ⟨⟨h⟩, fun g S hg => (by cases hg), tt_mo, fun _ _ h => (by cases h)⟩
noncomputable def b141 : Code := codeOf Tryz.f141
@[reducible] noncomputable def s141_122 : Shape := ⟨[(0, .lf (.d (.str))), (1, .lf (.d (.int .u8))), (2, .lf (.d (.int .i64))), (7, .lf (.own 3000448)), (8, .lf (.d (.int .i64))), (9, .lf (.d (.int .i64)))], [(3000448, .row .str, .slot 7 0)], 43⟩
@[reducible] noncomputable def t141_122 : List OSh := [(.exit 0, ⟨[(0, .lf (.d (.str))), (7, .lf (.own 3000448)), (8, .lf (.d (.int .i64)))], [(3000448, .row .str, .slot 7 0)], 43⟩)]
noncomputable def g141_122 (y : s141_122.Y) : Option (Sum s141_122.Y (YS t141_122)) :=
  bif (decide (y.1.2.2.2.2.2.1 < (y.1.1.length : Int))) then
  bif (decide ((y.2.1.length : Int) < y.1.2.2.1)) then
(ix y.1.1 y.1.2.2.2.2.2.1).bind fun x145 =>
  bif ((x145.toNat : Int) == y.1.2.1) then
(subl y.1.1 y.1.2.2.2.2.1 y.1.2.2.2.2.2.1).bind fun x148 =>
(apd 16 y.2.1 ([x148] : List Str)).bind fun x149 =>
  some (.inl ((y.1.1, (y.1.2.1, (y.1.2.2.1, ((), ((IntKind.i64.wrap (y.1.2.2.2.2.2.1 + (1 : Int))), ((IntKind.i64.wrap (y.1.2.2.2.2.2.1 + (1 : Int))), ())))))), (x149, ())))
else
  some (.inl ((y.1.1, (y.1.2.1, (y.1.2.2.1, ((), (y.1.2.2.2.2.1, ((IntKind.i64.wrap (y.1.2.2.2.2.2.1 + (1 : Int))), ())))))), (y.2.1, ())))
else
  some (.inr (((y.1.1, ((), (y.1.2.2.2.2.1, ()))), (y.2.1, ()))))
else
  some (.inr (((y.1.1, ((), (y.1.2.2.2.2.1, ()))), (y.2.1, ()))))
theorem r141_122 : ∀ y, g141_122 y = roundF (ctxWith c141 []) (unloop (codeAt b141 1 122)) 122 s141_122 t141_122 y := fun y => by kernel_rfl
noncomputable def l141_122 : s141_122.Y → Option (YS t141_122) := loopF g141_122
theorem q141_122 (H : CtxGood Tryz.prog c141) : FragOk Tryz.prog (codeAt b141 1 122) (fragOrc s141_122 t141_122 l141_122) :=
  loop_at (fr := []) H (by kernel_rfl) (by kernel_rfl) frags_nil (fun y => iter_congr r141_122 y)
@[reducible] noncomputable def i141 : Shape := ⟨[(0, .lf (.d (.str))), (1, .lf (.d (.int .u8))), (2, .lf (.d (.int .i64)))], [], 43⟩
@[reducible] noncomputable def o141 : Shape := ⟨[(6, .lf (.own 3000384))], [(3000384, .row .str, .slot 6 0)], 43⟩
noncomputable def f141 (a : i141.Y) : Option o141.Y :=
(l141_122 ((a.1.1, (a.1.2.1, (a.1.2.2.1, ((), ((0 : Int), ((0 : Int), ())))))), (([] : List Str), ()))).bind fun r155 =>
(subl r155.1.1 r155.1.2.2.1 (r155.1.1.length : Int)).bind fun x156 =>
(apd 16 r155.2.1 ([x156] : List Str)).bind fun x157 =>
  some (((), ()), (x157, ()))
theorem e141 : ∀ a, f141 a = bodyF (ctxWith c141 [(122, fragOrc s141_122 t141_122 l141_122)]) b141 i141 o141 a := fun a => by kernel_rfl
noncomputable def S141 : Summ := funSumm tt 43 i141 o141 [.tmp 6] f141
theorem z141 (h : ∀ T, (tt T).ok Tryz.prog T) : SummOk Tryz.prog 141 S141 :=
  have H := k141 h
  fun_at (fn := Tryz.f141) (fr := [(122, fragOrc s141_122 t141_122 l141_122)]) H (by kernel_rfl) (by kernel_rfl) (by kernel_rfl) (by kernel_rfl) (by kernel_rfl) ⟨q141_122 H, trivial⟩ (fun y => ⟨_, rfl, rfl⟩) e141
end Go.Proofs

set_option maxRecDepth 100000
set_option linter.unusedVariables false
set_option linter.unusedSimpArgs false
namespace Go.Proofs
open Go.Jk

/-- What came in is no longer than this. -/
abbrev Bd (n : Nat) : Prop := n ≤ 2097152

theorem splitL_ne (c : UInt8) : ∀ s, splitL c s ≠ [] := by
  intro s
  induction s with
  | nil => intro h; cases h
  | cons b r ih =>
    unfold splitL
    cases b == c with
    | true => intro h; cases h
    | false =>
      simp only [cond_false]
      split <;> intro h <;> cases h
def glue (acc : Str) : List Str → List Str
  | x :: xs => (acc ++ x) :: xs
  | [] => [acc]
theorem glue_nil {L : List Str} (h : L ≠ []) : glue [] L = L := by
  cases L with
  | nil => exact absurd rfl h
  | cons x xs => rfl
theorem splitL_len (c : UInt8) : ∀ s, (splitL c s).length ≤ s.length + 1 := by
  intro s
  induction s with
  | nil => exact Nat.le_refl _
  | cons b r ih =>
    unfold splitL
    cases b == c with
    | true => simpa using ih
    | false =>
      simp only [cond_false]
      split
      · rename_i x xs h; rw [h] at ih; simp at ih ⊢; omega
      · simp
theorem splitL_mem (c : UInt8) : ∀ s x, x ∈ splitL c s → x.length ≤ s.length := by
  intro s
  induction s with
  | nil => intro x h; simp [splitL] at h; simp [h]
  | cons b r ih =>
    intro x h
    unfold splitL at h
    cases hb : b == c with
    | true =>
      rw [hb, cond_true] at h
      rcases List.mem_cons.1 h with rfl | h
      · simp
      · have := ih x h; simp; omega
    | false =>
      rw [hb, cond_false] at h
      split at h
      · rename_i y ys hy
        rcases List.mem_cons.1 h with rfl | h
        · have := ih y (by rw [hy]; exact List.mem_cons_self); simp; omega
        · have := ih x (by rw [hy]; exact List.mem_cons_of_mem _ h); simp; omega
      · simp at h; simp [h]

theorem cut_fold {B : Type} (c : UInt8) (s : Str) (fin : Nat × List Str → B) : ∀ (r : Str) (k : Nat) (q : Nat × List Str), r = s.drop k → k ≤ s.length → q.1 ≤ k →
    ∃ q', foldB (fun i x (q : Nat × List Str) => some (.inl (bif (x.toNat : Int) == (c.toNat : Int) then (i + 1, q.2 ++ [(s.take i).drop q.1]) else q) : Sum (Nat × List Str) B)) fin k r q = some (fin q') ∧ q'.1 ≤ s.length ∧
      q'.2 ++ [s.drop q'.1] = q.2 ++ glue ((s.take k).drop q.1) (splitL c r) := by
  intro r
  induction r with
  | nil =>
    intro k q hr hk hq
    have hkl : k = s.length := by
      have := congrArg List.length hr
      simp at this; omega
    refine ⟨q, rfl, by omega, ?_⟩
    rw [hkl, List.take_length]
    simp [splitL, glue]
  | cons x r ih =>
    intro k q hr hk hq
    have hlt : k < s.length := by
      have := congrArg List.length hr
      simp at this; omega
    have hr' : r = s.drop (k + 1) := by
      have := congrArg List.tail hr
      simpa using this
    have hx : s[k]? = some x := by
      have := congrArg (fun l => l[0]?) hr
      simpa using this.symm
    simp only [foldB]
    cases hc : ((x.toNat : Int) == (c.toNat : Int)) with
    | true =>
      have hxc : x = c := by
        simp only [beq_iff_eq] at hc
        exact UInt8.toNat_inj.1 (by omega)
      simp only [cond_true]
      obtain ⟨q', h1, h2, h3⟩ := ih (k + 1) (k + 1, q.2 ++ [(s.take k).drop q.1]) hr' hlt (Nat.le_refl _)
      refine ⟨q', h1, h2, h3.trans ?_⟩
      have e1 : (s.take (k + 1)).drop (k + 1) = [] := List.drop_eq_nil_of_le (by rw [List.length_take]; omega)
      simp only [e1]
      rw [glue_nil (splitL_ne c r)]
      subst hxc
      have : splitL x (x :: r) = [] :: splitL x r := by simp [splitL]
      rw [this]
      simp [glue]
    | false =>
      have hxc : (x == c) = false := by
        cases h : x == c with
        | false => rfl
        | true => rw [eq_of_beq h] at hc; simp at hc
      simp only [cond_false]
      obtain ⟨q', h1, h2, h3⟩ := ih (k + 1) q hr' hlt (by omega)
      refine ⟨q', h1, h2, h3.trans ?_⟩
      have e1 : (s.take (k + 1)).drop q.1 = (s.take k).drop q.1 ++ [x] := by
        rw [List.take_add_one, hx]
        rw [List.drop_append_of_le_length (by rw [List.length_take]; omega)]
        rfl
      rw [e1]
      have : splitL c (x :: r) = glue [x] (splitL c r) := by
        rw [splitL, hxc, cond_false]
        cases h : splitL c r with
        | nil => rfl
        | cons y ys => rfl
      rw [this]
      cases h : splitL c r with
      | nil => exact absurd h (splitL_ne c r)
      | cons y ys => simp [glue]

theorem v_l1Cut (c : UInt8) (a) (hs : Bd a.1.1.length) (hb : a.1.2.1 = (c.toNat : Int)) (hm : a.1.2.2.1 = ((a.1.1.length + 1 : Nat) : Int)) : f141 a = some (((), ()), (splitL c a.1.1, ())) := by
  obtain ⟨⟨s, b, m, u⟩, u'⟩ := a
  obtain rfl : b = (c.toNat : Int) := hb
  obtain rfl : m = ((s.length + 1 : Nat) : Int) := hm
  have hs : s.length ≤ 2097152 := hs
  have key := loop_inv g141_122 s (fun i (q : Nat × List Str) => ((s, ((c.toNat : Int), (((s.length + 1 : Nat) : Int), ((), ((q.1 : Int), ((i : Int), ())))))), (q.2, ())))
    (fun i x (q : Nat × List Str) => some (.inl (bif (x.toNat : Int) == (c.toNat : Int) then (i + 1, q.2 ++ [(s.take i).drop q.1]) else q))) (fun q => (((s, ((), ((q.1 : Int), ()))), (q.2, ())) : YS t141_122))
    (fun i q => q.1 ≤ i ∧ q.2.length ≤ i) (0, []) ⟨Nat.le_refl _, Nat.le_refl _⟩ (fun i x q hx hI => ?_) (fun q hI => ?_)
  · obtain ⟨q', h1, h2, h3⟩ := cut_fold c s (fun q => (((s, ((), ((q.1 : Int), ()))), (q.2, ())) : YS t141_122)) s 0 (0, []) rfl (Nat.zero_le _) (Nat.le_refl _)
    have key : l141_122 ((s, ((c.toNat : Int), (((s.length + 1 : Nat) : Int), ((), ((0 : Int), ((0 : Int), ())))))), (([] : List Str), ())) = some ((s, ((), ((q'.1 : Int), ()))), (q'.2, ())) := key.trans h1
    simp only [f141, key, Option.bind_some]
    rw [subl_from h2]
    have h3 : q'.2 ++ [s.drop q'.1] = splitL c s := by
      rw [h3]; simp only [List.take_zero, List.drop_nil, List.nil_append]
      exact glue_nil (splitL_ne c s)
    have hl : q'.2.length ≤ s.length + 1 := by
      have := congrArg List.length h3
      have h4 := splitL_len c s
      simp only [List.length_append, List.length_cons, List.length_nil] at this
      omega
    simp only [Option.bind_some]
    rw [apd_sm (by decide) (by unfold Sm; simp only [List.length_cons, List.length_nil]; omega)]
    simp only [Option.bind_some, h3]
  · have hi := get_lt hx
    have hw : Sm i := by unfold Sm; omega
    obtain ⟨h0, h1⟩ := hI
    have hlt : decide ((q.2.length : Int) < ((s.length + 1 : Nat) : Int)) = true := lt_dec (by omega)
    refine ⟨?_, fun q' hq' => ?_⟩
    · simp only [g141_122, lt_dec hi, cond_true, hlt, ix_nat, hx, Option.bind_some]
      cases hc : ((x.toNat : Int) == (c.toNat : Int)) with
      | true =>
        simp only [cond_true]
        rw [subl_nat h0 (by omega)]
        simp only [Option.bind_some]
        rw [apd_sm (by decide) (by unfold Sm; simp only [List.length_cons, List.length_nil]; omega)]
        simp only [Option.bind_some, Option.map_some, wrap_add1 hw]
      | false => simp only [cond_false, Option.map_some, wrap_add1 hw]
    · simp only [Option.some.injEq, Sum.inl.injEq] at hq'
      subst hq'
      cases (x.toNat : Int) == (c.toNat : Int) with
      | true => simp only [cond_true, List.length_append, List.length_cons, List.length_nil]; omega
      | false => simp only [cond_false]; omega
  · simp only [g141_122, nlt_dec, cond_false]
end Go.Proofs

set_option maxRecDepth 100000
set_option linter.unusedVariables false
namespace Go.Proofs
open Go.Jk
-- 106 loop.example/jackstay/impl.readVersion
noncomputable def c106 : Ctx := { tt := tt, fs := fun n => match n with | 138 => some S138 | _ => none, sp := fun n => match n with | 137 => some 164 | _ => none }
theorem k106 (h : ∀ T, (tt T).ok Tryz.prog T) (h138 : SummOk Tryz.prog 138 S138) (hY : SplitOk Tryz.prog 137 164) (hI : IterOk Tryz.prog 164) : CtxGood Tryz.prog c106 := ⟨⟨h⟩, fun g S hg => (by
  simp only [c106] at hg
  split at hg
  · cases hg; exact h138
  · cases hg), tt_mo, fun g g2 hg => (by
  simp only [c106] at hg
  split at hg
  · cases hg; exact hY
  · cases hg)⟩
noncomputable def b106 : Code := codeOf Tryz.f106
@[reducible] noncomputable def s106_1876 : Shape := ⟨[(2, .lf (.ptr 2 0)), (3, .lf (.ptr 3 0)), (4, .lf (.ptr 4 0)), (6, .lf (.d (.int .i64))), (7, .lf (.d (.bool)))], [(5000128, .row .i64, .cell 2 0), (2, .box [.own 5000128], .same), (3, .box [.d (.bool)], .same), (5000256, .row .i64, .cell 4 0), (4, .box [.own 5000256], .same)], 28⟩
@[reducible] noncomputable def t106_1876 : List OSh := [(.norm, ⟨[(2, .lf (.ptr 2 0)), (3, .lf (.ptr 3 0)), (4, .lf (.ptr 4 0)), (6, .lf (.d (.int .i64))), (22, .lf (.d (.bool)))], [(5000128, .row .i64, .cell 2 0), (2, .box [.own 5000128], .same), (3, .box [.d (.bool)], .same), (5000256, .row .i64, .cell 4 0), (4, .box [.own 5000256], .same)], 28⟩)]
noncomputable def g106_1876 (y : s106_1876.Y) : Option (YS t106_1876) :=
  bif (!(!y.1.2.2.2.2.1)) then
  some ((((), ((), ((), (y.1.2.2.2.1, (((y.2.2.2.2.1.length : Int) == (4 : Int)), ()))))), (y.2.1, (((), ()), ((y.2.2.2.1.1, ()), (y.2.2.2.2.1, (((), ()), ())))))))
else
  some ((((), ((), ((), (y.1.2.2.2.1, (true, ()))))), (y.2.1, (((), ()), ((y.2.2.2.1.1, ()), (y.2.2.2.2.1, (((), ()), ())))))))
theorem r106_1876 : ∀ y, g106_1876 y = pieceF (ctxWith c106 []) (codeAt (rfBody (codeAt b106 1 58)) 117 1876) 1876 s106_1876 t106_1876 y := fun y => by kernel_rfl
theorem q106_1876 (H : CtxGood Tryz.prog c106) (hI : IterOk Tryz.prog 164) : FragOk Tryz.prog (codeAt (rfBody (codeAt b106 1 58)) 117 1876) (fragOrc s106_1876 t106_1876 g106_1876) :=
  piece_at (fr := []) H (by kernel_rfl) frags_nil r106_1876
@[reducible] noncomputable def s106_58 : Shape := ⟨[(2, .lf (.ptr 2 0)), (3, .lf (.ptr 3 0)), (4, .lf (.ptr 4 0))], [(5000128, .row .i64, .cell 2 0), (2, .box [.own 5000128], .same), (3, .box [.d (.bool)], .same), (5000256, .row .i64, .cell 4 0), (4, .box [.own 5000256], .same)], 28⟩
@[reducible] noncomputable def t106_58 : List OSh := [(.norm, ⟨[(2, .lf (.ptr 2 0)), (3, .lf (.ptr 3 0)), (4, .lf (.ptr 4 0))], [(5000128, .row .i64, .cell 2 0), (2, .box [.own 5000128], .same), (3, .box [.d (.bool)], .same), (5000256, .row .i64, .cell 4 0), (4, .box [.own 5000256], .same)], 28⟩), (.ret, ⟨[(2, .lf (.ptr 2 0)), (3, .lf (.ptr 3 0))], [(5000128, .row .i64, .cell 2 0), (2, .box [.own 5000128], .same), (3, .box [.d (.bool)], .same)], 28⟩)]
noncomputable def g106_58 (x : Str) (y : s106_58.Y) : Option (Sum s106_58.Y (YS t106_58)) :=
(f138 ((x, ((999 : Int), ())), ())).bind fun r763 =>
(g106_1876 (((), ((), ((), (r763.1.1, (r763.1.2.1, ()))))), (y.2.1, (((), ()), ((y.2.2.2.1.1, ()), (y.2.2.2.2.1, (((), ()), ()))))))).bind fun r765 =>
  bif r765.1.2.2.2.2.1 then
  some (.inr (.inr (((), ((), ())), (([] : List Int), (((), ()), ((false, ()), ()))))))
else
(apd 8 r765.2.2.2.2.1 ([r765.1.2.2.2.1] : List Int)).bind fun x766 =>
  some (.inl (((), ((), ((), ()))), (r765.2.1, (((), ()), ((r765.2.2.2.1.1, ()), (x766, (((), ()), ())))))))
noncomputable def h106_58 (y : s106_58.Y) : Option (YS t106_58) := some (.inl (((), ((), ((), ()))), (y.2.1, (((), ()), ((y.2.2.2.1.1, ()), (y.2.2.2.2.1, (((), ()), ())))))))
theorem r106_58 : ∀ x y, g106_58 x y = roundP (ctxWith c106 [(1876, fragOrc s106_1876 t106_1876 g106_1876)]) (rfAssign (codeAt b106 1 58)) (rfBody (codeAt b106 1 58)) 58 10 s106_58 t106_58 x y := fun x y => by kernel_rfl
theorem q106_58 (H : CtxGood Tryz.prog c106) (hI : IterOk Tryz.prog 164) : FragOk Tryz.prog (codeAt b106 1 58) (rangeOrc 164 9 s106_58 t106_58 g106_58 h106_58) :=
  range_at (fr := [(1876, fragOrc s106_1876 t106_1876 g106_1876)]) (prm := 10) H hI (by kernel_rfl) (by kernel_rfl) (by kernel_rfl) ⟨q106_1876 H hI, trivial⟩ r106_58 (fun y => by kernel_rfl) (by kernel_rfl) (by kernel_rfl) (by kernel_rfl) (by kernel_rfl) (by kernel_rfl)
@[reducible] noncomputable def i106 : Shape := ⟨[(0, .lf (.d (.str)))], [], 28⟩
@[reducible] noncomputable def o106 : Shape := ⟨[(2, .lf (.ptr 2 0)), (3, .lf (.ptr 3 0))], [(5000128, .row .i64, .cell 2 0), (2, .box [.own 5000128], .same), (3, .box [.d (.bool)], .same)], 28⟩
noncomputable def f106 (a : i106.Y) : Option o106.Y :=
(bif Nat.ble a.1.1.length bigLen then foldP g106_58 h106_58 (splitL (46 : UInt8) a.1.1) (((), ((), ((), ()))), (([] : List Int), (((), ()), ((false, ()), (([] : List Int), (((), ()), ())))))) else none).bind fun r776 =>
(match r776 with
| .inl r777 =>
  some (((), ((), ())), (r777.2.2.2.2.1, (((), ()), ((true, ()), ()))))
| .inr r778 =>
  some (((), ((), ())), (r778.2.1, (((), ()), ((r778.2.2.2.1.1, ()), ())))))
theorem e106 : ∀ a, f106 a = bodyF (ctxWith c106 [(58, rangeOrc 164 9 s106_58 t106_58 g106_58 h106_58)]) b106 i106 o106 a := fun a => by kernel_rfl
noncomputable def S106 : Summ := funSumm tt 28 i106 o106 [.cell 2 128, .cell 3 4] f106
theorem z106 (h : ∀ T, (tt T).ok Tryz.prog T) (h138 : SummOk Tryz.prog 138 S138) (hY : SplitOk Tryz.prog 137 164) (hI : IterOk Tryz.prog 164) : SummOk Tryz.prog 106 S106 :=
  have H := k106 h h138 hY hI
  fun_at (fn := Tryz.f106) (fr := [(58, rangeOrc 164 9 s106_58 t106_58 g106_58 h106_58)]) H (by kernel_rfl) (by kernel_rfl) (by kernel_rfl) (by kernel_rfl) (by kernel_rfl) ⟨q106_58 H hI, trivial⟩ (fun y => ⟨_, rfl, rfl⟩) e106
end Go.Proofs

set_option maxRecDepth 100000
set_option linter.unusedVariables false
namespace Go.Proofs
open Go.Jk
-- 111 loop.example/jackstay/spec.l3Parts
noncomputable def c111 : Ctx := { tt := tt, fs := fun n => match n with | 110 => some S110 | 141 => some S141 | 142 => some S142 | _ => none }
theorem k111 (h : ∀ T, (tt T).ok Tryz.prog T) (h110 : SummOk Tryz.prog 110 S110) (h141 : SummOk Tryz.prog 141 S141) (h142 : SummOk Tryz.prog 142 S142) : CtxGood Tryz.prog c111 := ⟨⟨h⟩, fun g S hg => (by
  simp only [c111] at hg
  split at hg
  · cases hg; exact h110
  · cases hg; exact h141
  · cases hg; exact h142
  · cases hg), tt_mo, fun _ _ h => (by cases h)⟩
noncomputable def b111 : Code := codeOf Tryz.f111
@[reducible] noncomputable def s111_122 : Shape := ⟨[(4, .lf (.own 3000256)), (5, .lf (.own 3000320)), (6, .lf (.d (.int .i64)))], [(3000256, .row .str, .slot 4 0), (3000320, .row .i64, .slot 5 0)], 37⟩
@[reducible] noncomputable def t111_122 : List OSh := [(.ret, ⟨[(2, .lf (.own 3000128)), (3, .lf (.d (.bool)))], [(3000128, .row .i64, .slot 2 0)], 37⟩), (.exit 0, ⟨[(4, .lf (.own 3000256)), (5, .lf (.own 3000320))], [(3000256, .row .str, .slot 4 0), (3000320, .row .i64, .slot 5 0)], 37⟩)]
noncomputable def g111_122 (y : s111_122.Y) : Option (Sum s111_122.Y (YS t111_122)) :=
  bif (decide (y.1.2.2.1 < (y.2.1.length : Int))) then
(inb y.2.1.length y.1.2.2.1).bind fun x204 =>
(y.2.1[x204]?).bind fun x205 =>
(f142 ((x205, ()), ())).bind fun r206 =>
(f110 ((r206.1.1, ((0 : Int), ((999 : Int), ()))), ())).bind fun r210 =>
  bif (!r210.1.1) then
  some (.inr (.inl (((), (false, ())), (y.2.2.1, ()))))
else
(apd 8 y.2.2.1 ([r206.1.1] : List Int)).bind fun x211 =>
  some (.inl (((), ((), ((IntKind.i64.wrap (y.1.2.2.1 + (1 : Int))), ()))), (y.2.1, (x211, ()))))
else
  some (.inr (.inr (((), ((), ())), (y.2.1, (y.2.2.1, ())))))
theorem r111_122 : ∀ y, g111_122 y = roundF (ctxWith c111 []) (unloop (codeAt b111 1 122)) 122 s111_122 t111_122 y := fun y => by kernel_rfl
noncomputable def l111_122 : s111_122.Y → Option (YS t111_122) := loopF g111_122
theorem q111_122 (H : CtxGood Tryz.prog c111) : FragOk Tryz.prog (codeAt b111 1 122) (fragOrc s111_122 t111_122 l111_122) :=
  loop_at (fr := []) H (by kernel_rfl) (by kernel_rfl) frags_nil (fun y => iter_congr r111_122 y)
@[reducible] noncomputable def i111 : Shape := ⟨[(0, .lf (.d (.str)))], [], 37⟩
@[reducible] noncomputable def o111 : Shape := ⟨[(2, .lf (.own 3000128)), (3, .lf (.d (.bool)))], [(3000128, .row .i64, .slot 2 0)], 37⟩
noncomputable def f111 (a : i111.Y) : Option o111.Y :=
(f141 ((a.1.1, ((46 : Int), ((IntKind.i64.wrap ((a.1.1.length : Int) + (1 : Int))), ()))), ())).bind fun r219 =>
(l111_122 (((), ((), ((0 : Int), ()))), (r219.2.1, (([] : List Int), ())))).bind fun r223 =>
(match r223 with
| .inl r224 =>
  some (((), (r224.1.2.1, ())), (r224.2.1, ()))
| .inr r225 =>
  some (((), ((decide ((r225.2.1.length : Int) ≤ (4 : Int))), ())), (r225.2.2.1, ())))
theorem e111 : ∀ a, f111 a = bodyF (ctxWith c111 [(122, fragOrc s111_122 t111_122 l111_122)]) b111 i111 o111 a := fun a => by kernel_rfl
noncomputable def S111 : Summ := funSumm tt 37 i111 o111 [.tmp 2, .tmp 3] f111
theorem z111 (h : ∀ T, (tt T).ok Tryz.prog T) (h110 : SummOk Tryz.prog 110 S110) (h141 : SummOk Tryz.prog 141 S141) (h142 : SummOk Tryz.prog 142 S142) : SummOk Tryz.prog 111 S111 :=
  have H := k111 h h110 h141 h142
  fun_at (fn := Tryz.f111) (fr := [(122, fragOrc s111_122 t111_122 l111_122)]) H (by kernel_rfl) (by kernel_rfl) (by kernel_rfl) (by kernel_rfl) (by kernel_rfl) ⟨q111_122 H, trivial⟩ (fun y => ⟨_, rfl, rfl⟩) e111
end Go.Proofs

set_option maxRecDepth 100000
set_option linter.unusedVariables false
namespace Go.Proofs
open Go.Jk
-- 85 loop.example/jackstay/spec.VersionOk
noncomputable def c85 : Ctx := { tt := tt, fs := fun n => match n with | 111 => some S111 | _ => none }
theorem k85 (h : ∀ T, (tt T).ok Tryz.prog T) (h111 : SummOk Tryz.prog 111 S111) : CtxGood Tryz.prog c85 := ⟨⟨h⟩, fun g S hg => (by
  simp only [c85] at hg
  split at hg
  · cases hg; exact h111
  · cases hg), tt_mo, fun _ _ h => (by cases h)⟩
noncomputable def b85 : Code := codeOf Tryz.f85
@[reducible] noncomputable def i85 : Shape := ⟨[(0, .lf (.d (.str)))], [], 11⟩
@[reducible] noncomputable def o85 : Shape := ⟨[(2, .lf (.d (.bool)))], [], 11⟩
noncomputable def f85 (a : i85.Y) : Option o85.Y :=
(f111 ((a.1.1, ()), ())).bind fun r227 =>
  some ((r227.1.2.1, ()), ())
theorem e85 : ∀ a, f85 a = bodyF (ctxWith c85 []) b85 i85 o85 a := fun a => by kernel_rfl
noncomputable def S85 : Summ := funSumm tt 11 i85 o85 [.tmp 2] f85
theorem z85 (h : ∀ T, (tt T).ok Tryz.prog T) (h111 : SummOk Tryz.prog 111 S111) : SummOk Tryz.prog 85 S85 :=
  have H := k85 h h111
  fun_at (fn := Tryz.f85) (fr := []) H (by kernel_rfl) (by kernel_rfl) (by kernel_rfl) (by kernel_rfl) (by kernel_rfl) frags_nil (fun y => ⟨_, rfl, rfl⟩) e85
end Go.Proofs

set_option maxRecDepth 100000
set_option linter.unusedVariables false
namespace Go.Proofs
open Go.Jk
-- 143 loop.example/jackstay/spec.NeedOk
noncomputable def c143 : Ctx := { tt := tt, fs := fun n => match n with | 84 => some S84 | 85 => some S85 | 110 => some S110 | _ => none }
theorem k143 (h : ∀ T, (tt T).ok Tryz.prog T) (h84 : SummOk Tryz.prog 84 S84) (h85 : SummOk Tryz.prog 85 S85) (h110 : SummOk Tryz.prog 110 S110) : CtxGood Tryz.prog c143 := ⟨⟨h⟩, fun g S hg => (by
  simp only [c143] at hg
  split at hg
  · cases hg; exact h84
  · cases hg; exact h85
  · cases hg; exact h110
  · cases hg), tt_mo, fun _ _ h => (by cases h)⟩
noncomputable def b143 : Code := codeOf Tryz.f143
@[reducible] noncomputable def i143 : Shape := ⟨[(0, .agg [.d (.str), .d (.int .i64), .d (.str)])], [], 26⟩
@[reducible] noncomputable def o143 : Shape := ⟨[(2, .lf (.d (.bool)))], [], 26⟩
noncomputable def f143 (a : i143.Y) : Option o143.Y :=
(f84 ((a.1.1.1, ()), ())).bind fun r241 =>
  bif r241.1.1 then
  bif (a.1.1.2.1 == (0 : Int)) then
  bif (!(a.1.1.2.2.1 == ([] : Str))) then
(f110 ((a.1.1.2.1, ((1 : Int), ((3 : Int), ()))), ())).bind fun r242 =>
  bif r242.1.1 then
(f85 ((a.1.1.2.2.1, ()), ())).bind fun r243 =>
  some ((r243.1.1, ()), ())
else
  some ((false, ()), ())
else
  some ((true, ()), ())
else
(f110 ((a.1.1.2.1, ((1 : Int), ((3 : Int), ()))), ())).bind fun r244 =>
  bif r244.1.1 then
(f85 ((a.1.1.2.2.1, ()), ())).bind fun r245 =>
  some ((r245.1.1, ()), ())
else
  some ((false, ()), ())
else
  some ((false, ()), ())
theorem e143 : ∀ a, f143 a = bodyF (ctxWith c143 []) b143 i143 o143 a := fun a => by kernel_rfl
noncomputable def S143 : Summ := funSumm tt 26 i143 o143 [.tmp 2] f143
theorem z143 (h : ∀ T, (tt T).ok Tryz.prog T) (h84 : SummOk Tryz.prog 84 S84) (h85 : SummOk Tryz.prog 85 S85) (h110 : SummOk Tryz.prog 110 S110) : SummOk Tryz.prog 143 S143 :=
  have H := k143 h h84 h85 h110
  fun_at (fn := Tryz.f143) (fr := []) H (by kernel_rfl) (by kernel_rfl) (by kernel_rfl) (by kernel_rfl) (by kernel_rfl) frags_nil (fun y => ⟨_, rfl, rfl⟩) e143
end Go.Proofs

set_option maxRecDepth 100000
set_option linter.unusedVariables false
namespace Go.Proofs
open Go.Jk
-- 78 loop.example/jackstay/impl.VersionOk
noncomputable def c78 : Ctx := { tt := tt, fs := fun n => match n with | 106 => some S106 | _ => none }
theorem k78 (h : ∀ T, (tt T).ok Tryz.prog T) (h106 : SummOk Tryz.prog 106 S106) : CtxGood Tryz.prog c78 := ⟨⟨h⟩, fun g S hg => (by
  simp only [c78] at hg
  split at hg
  · cases hg; exact h106
  · cases hg), tt_mo, fun _ _ h => (by cases h)⟩
noncomputable def b78 : Code := codeOf Tryz.f78
@[reducible] noncomputable def i78 : Shape := ⟨[(0, .lf (.d (.str)))], [], 11⟩
@[reducible] noncomputable def o78 : Shape := ⟨[(2, .lf (.d (.bool)))], [], 11⟩
noncomputable def f78 (a : i78.Y) : Option o78.Y :=
(f106 ((a.1.1, ()), ())).bind fun r780 =>
  some ((r780.2.2.2.1.1, ()), ())
theorem e78 : ∀ a, f78 a = bodyF (ctxWith c78 []) b78 i78 o78 a := fun a => by kernel_rfl
noncomputable def S78 : Summ := funSumm tt 11 i78 o78 [.tmp 2] f78
theorem z78 (h : ∀ T, (tt T).ok Tryz.prog T) (h106 : SummOk Tryz.prog 106 S106) : SummOk Tryz.prog 78 S78 :=
  have H := k78 h h106
  fun_at (fn := Tryz.f78) (fr := []) H (by kernel_rfl) (by kernel_rfl) (by kernel_rfl) (by kernel_rfl) (by kernel_rfl) frags_nil (fun y => ⟨_, rfl, rfl⟩) e78
end Go.Proofs

set_option maxRecDepth 100000
set_option linter.unusedVariables false
namespace Go.Proofs
open Go.Jk
-- 80 loop.example/jackstay/impl.NeedOk
noncomputable def c80 : Ctx := { tt := tt, fs := fun n => match n with | 77 => some S77 | 78 => some S78 | _ => none }
theorem k80 (h : ∀ T, (tt T).ok Tryz.prog T) (h77 : SummOk Tryz.prog 77 S77) (h78 : SummOk Tryz.prog 78 S78) : CtxGood Tryz.prog c80 := ⟨⟨h⟩, fun g S hg => (by
  simp only [c80] at hg
  split at hg
  · cases hg; exact h77
  · cases hg; exact h78
  · cases hg), tt_mo, fun _ _ h => (by cases h)⟩
noncomputable def b80 : Code := codeOf Tryz.f80
@[reducible] noncomputable def s80_470 : Shape := ⟨[(1, .lf (.ptr 1 0)), (8, .lf (.d (.int .i64)))], [(1, .box [.d (.str), .d (.int .i64), .d (.str)], .same)], 21⟩
@[reducible] noncomputable def t80_470 : List OSh := [(.norm, ⟨[(1, .lf (.ptr 1 0)), (14, .lf (.d (.bool)))], [(1, .box [.d (.str), .d (.int .i64), .d (.str)], .same)], 21⟩)]
noncomputable def g80_470 (y : s80_470.Y) : Option (YS t80_470) :=
  bif (y.1.2.1 == (1 : Int)) then
  some ((((), ((y.1.2.1 == (1 : Int)), ())), ((y.2.1.1, (y.2.1.2.1, (y.2.1.2.2.1, ()))), ())))
else
  bif (y.1.2.1 == (2 : Int)) then
  some ((((), ((y.1.2.1 == (2 : Int)), ())), ((y.2.1.1, (y.2.1.2.1, (y.2.1.2.2.1, ()))), ())))
else
  some ((((), ((y.1.2.1 == (3 : Int)), ())), ((y.2.1.1, (y.2.1.2.1, (y.2.1.2.2.1, ()))), ())))
theorem r80_470 : ∀ y, g80_470 y = pieceF (ctxWith c80 []) (codeAt b80 1 470) 470 s80_470 t80_470 y := fun y => by kernel_rfl
theorem q80_470 (H : CtxGood Tryz.prog c80) : FragOk Tryz.prog (codeAt b80 1 470) (fragOrc s80_470 t80_470 g80_470) :=
  piece_at (fr := []) H (by kernel_rfl) frags_nil r80_470
@[reducible] noncomputable def i80 : Shape := ⟨[(0, .agg [.d (.str), .d (.int .i64), .d (.str)])], [], 21⟩
@[reducible] noncomputable def o80 : Shape := ⟨[(2, .lf (.d (.bool)))], [], 21⟩
noncomputable def f80 (a : i80.Y) : Option o80.Y :=
(f77 ((a.1.1.1, ()), ())).bind fun r797 =>
  bif (!r797.1.1) then
  some ((false, ()), ())
else
  bif (a.1.1.2.1 == (0 : Int)) then
  some (((a.1.1.2.2.1 == ([] : Str)), ()), ())
else
(g80_470 (((), (a.1.1.2.1, ())), ((a.1.1.1, (a.1.1.2.1, (a.1.1.2.2.1, ()))), ()))).bind fun r798 =>
  bif r798.1.2.1 then
(f78 ((r798.2.1.2.2.1, ()), ())).bind fun r799 =>
  some ((r799.1.1, ()), ())
else
  some ((false, ()), ())
theorem e80 : ∀ a, f80 a = bodyF (ctxWith c80 [(470, fragOrc s80_470 t80_470 g80_470)]) b80 i80 o80 a := fun a => by kernel_rfl
noncomputable def S80 : Summ := funSumm tt 21 i80 o80 [.tmp 2] f80
theorem z80 (h : ∀ T, (tt T).ok Tryz.prog T) (h77 : SummOk Tryz.prog 77 S77) (h78 : SummOk Tryz.prog 78 S78) : SummOk Tryz.prog 80 S80 :=
  have H := k80 h h77 h78
  fun_at (fn := Tryz.f80) (fr := [(470, fragOrc s80_470 t80_470 g80_470)]) H (by kernel_rfl) (by kernel_rfl) (by kernel_rfl) (by kernel_rfl) (by kernel_rfl) ⟨q80_470 H, trivial⟩ (fun y => ⟨_, rfl, rfl⟩) e80
end Go.Proofs

set_option maxRecDepth 100000
set_option linter.unusedVariables false
set_option linter.unusedSimpArgs false
namespace Go.Proofs
open Go.Jk

theorem val_nonneg : ∀ (r : Str) (n : Int), r.all digB = true → 0 ≤ n → 0 ≤ r.foldl stepN n := by
  intro r
  induction r with
  | nil => intro n _ h; exact h
  | cons b r ih =>
    intro n hd h
    simp only [List.all_cons, Bool.and_eq_true] at hd
    have hb := digB_bounds hd.1
    exact ih _ hd.2 (by unfold stepN; omega)

/- Versions. -/
def partsL (s : Str) : List Str := splitL 46 s
def versOk (s : Str) : Bool := (partsL s).all numB && decide ((partsL s).length ≤ 4)
def versL (s : Str) : List Int := (partsL s).map valN

theorem numB_within (x : Str) : within (bif x.all digB && decide (x.length ≤ 6) && !(x == []) && !leadB x then valN x else -1) 0 999 = numB x := by
  unfold numB within
  cases h1 : x.all digB with
  | false => simp
  | true =>
    have := val_nonneg x 0 h1 (Int.le_refl _)
    have hv : decide ((0 : Int) ≤ valN x) = true := by simp only [decide_eq_true_eq]; exact this
    cases h2 : decide (x.length ≤ 6) <;> cases h3 : (x == []) <;> cases h4 : leadB x <;> simp [hv]

theorem v_l3Parts (a) (hs : Bd a.1.1.length) : ∃ out, f111 a = some (((), (versOk a.1.1, ())), (out, ())) ∧ (versOk a.1.1 = true → out = versL a.1.1) := by
  obtain ⟨⟨s, u⟩, u'⟩ := a
  have hs : s.length ≤ 2097152 := hs
  have hlen := splitL_len 46 s
  have hcut : f141 ((s, ((46 : Int), ((IntKind.i64.wrap ((s.length : Int) + (1 : Int))), ()))), ()) = some (((), ()), (partsL s, ())) :=
    v_l1Cut 46 _ hs rfl (wrap_add1 (by unfold Sm; omega))
  have key := loop_inv g111_122 (partsL s) (fun i (out : List Int) => (((), ((), ((i : Int), ()))), (partsL s, (out, ()))))
    (fun i x out => some (bif numB x then .inl (out ++ [valN x]) else .inr ((.inl (((), (false, ())), (out, ()))) : YS t111_122))) (fun out => ((.inr (((), ((), ())), (partsL s, (out, ())))) : YS t111_122))
    (fun i out => out.length ≤ i) [] (Nat.le_refl _) (fun i x out hx hI => ?_) (fun out _ => ?_)
  · have fold : ∀ (r : List Str) (k : Nat) (out : List Int), foldB (fun i x out => some (bif numB x then .inl (out ++ [valN x]) else .inr ((.inl (((), (false, ())), (out, ()))) : YS t111_122))) (fun out => ((.inr (((), ((), ())), (partsL s, (out, ())))) : YS t111_122)) k r out =
        some (bif r.all numB then (.inr (((), ((), ())), (partsL s, (out ++ r.map valN, ())))) else (.inl (((), (false, ())), (out ++ (r.takeWhile numB).map valN, ())))) := by
      intro r
      induction r with
      | nil => intro k out; simp [foldB]
      | cons x r ih =>
        intro k out
        simp only [foldB, List.all_cons]
        cases hn : numB x with
        | false => simp [hn]
        | true => simp only [cond_true, Bool.true_and]; rw [ih]; simp [hn, List.append_assoc]
    have key : l111_122 (((), ((), ((0 : Int), ()))), (partsL s, (([] : List Int), ()))) = _ := key.trans (fold (partsL s) 0 [])
    simp only [f111, hcut, Option.bind_some, key, List.nil_append]
    unfold versOk
    cases hall : (partsL s).all numB with
    | false => exact ⟨_, rfl, fun h => by cases h⟩
    | true =>
      simp only [cond_true, Bool.true_and]
      have : decide (((partsL s).length : Int) ≤ 4) = decide ((partsL s).length ≤ 4) := by by_cases h : (partsL s).length ≤ 4 <;> simp [h] <;> omega
      rw [this]
      exact ⟨_, rfl, fun _ => rfl⟩
  · have hi := get_lt hx
    have hlen' : (partsL s).length ≤ s.length + 1 := hlen
    have hw : Sm i := by unfold Sm; omega
    have hxl : x.length ≤ s.length := splitL_mem 46 s x (List.mem_of_getElem? hx)
    refine ⟨?_, fun s' h' => ?_⟩
    · simp only [g111_122, lt_dec hi, cond_true, inb_nat hi, hx, Option.bind_some]
      rw [v_l1Num _ (show Sm x.length by unfold Sm; omega)]
      simp only [Option.bind_some, v_l1In, numB_within]
      cases hn : numB x with
      | false => rfl
      | true =>
        have hv : (bif x.all digB && decide (x.length ≤ 6) && !(x == []) && !leadB x then valN x else -1) = valN x := by
          unfold numB at hn
          simp only [Bool.and_eq_true] at hn
          obtain ⟨⟨⟨⟨h1, h2⟩, h3⟩, h4⟩, h5⟩ := hn
          rw [h1, h4, h2, h3]; rfl
        simp only [Bool.not_true, cond_false, hv, cond_true]
        rw [apd_sm (by decide) (by unfold Sm; simp only [List.length_cons, List.length_nil]; omega)]
        simp only [Option.bind_some, wrap_add1 hw, Option.map_some]
    · simp only [Option.some.injEq] at h'
      cases hn : numB x with
      | false => rw [hn] at h'; cases h'
      | true =>
        rw [hn] at h'
        simp only [cond_true, Sum.inl.injEq] at h'
        subst h'
        simp only [List.length_append, List.length_cons, List.length_nil]; omega
  · simp only [g111_122, nlt_dec, cond_false]

theorem v_VersionOk (a) (hs : Bd a.1.1.length) : f85 a = some ((versOk a.1.1, ()), ()) := by
  obtain ⟨out, h, _⟩ := v_l3Parts ((a.1.1, ()), ()) hs
  simp only [f85, h, Option.bind_some]

theorem v_readVersion (a) (hs : Bd a.1.1.length) : f106 a = some (((), ((), ())), ((bif versOk a.1.1 then versL a.1.1 else []), (((), ()), ((versOk a.1.1, ()), ())))) := by
  obtain ⟨⟨s, u⟩, u'⟩ := a
  have hs : s.length ≤ 2097152 := hs
  have hble : Nat.ble s.length bigLen = true := Nat.ble_eq_true_of_le (by unfold bigLen; omega)
  have fold : ∀ (r : List Str) (out : List Int), (∀ x, x ∈ r → x.length ≤ s.length) → out.length ≤ 4 →
      foldP g106_58 h106_58 r (((), ((), ((), ()))), (([] : List Int), (((), ()), ((false, ()), (out, (((), ()), ())))))) =
        some (bif r.all numB && decide (out.length + r.length ≤ 4) then (.inl (((), ((), ((), ()))), (([] : List Int), (((), ()), ((false, ()), (out ++ r.map valN, (((), ()), ()))))))) else (.inr (((), ((), ())), (([] : List Int), (((), ()), ((false, ()), ())))))) := by
    intro r
    induction r with
    | nil =>
      intro out _ ho
      have : decide (out.length + 0 ≤ 4) = true := by simpa using ho
      simp only [foldP, h106_58, List.all_nil, List.length_nil, this, Bool.and_self, cond_true, List.map_nil, List.append_nil]
    | cons x r ih =>
      intro out hr ho
      have hx := hr x List.mem_cons_self
      have hnum := v_number ((x, ((999 : Int), ())), ()) (show Sm x.length by unfold Sm; omega) rfl
      have step : g106_58 x (((), ((), ((), ()))), (([] : List Int), (((), ()), ((false, ()), (out, (((), ()), ())))))) =
          some (bif numB x && decide (out.length + 1 ≤ 4) then .inl (((), ((), ((), ()))), (([] : List Int), (((), ()), ((false, ()), (out ++ [valN x], (((), ()), ())))))) else .inr (.inr (((), ((), ())), (([] : List Int), (((), ()), ((false, ()), ())))))) := by
        simp only [g106_58, hnum, Option.bind_some, g106_1876, Bool.not_not]
        have h4 : ((out.length : Int) == 4) = !decide (out.length + 1 ≤ 4) := by
          by_cases h : out.length = 4
          · rw [h]; rfl
          · have h5 : decide (out.length + 1 ≤ 4) = true := by simp only [decide_eq_true_eq]; omega
            rw [h5]; simp only [beq_eq_false_iff_ne, ne_eq, Bool.not_true]; omega
        rw [h4]
        cases hn : numB x with
        | false => rfl
        | true =>
          simp only [cond_true, Option.bind_some, Bool.true_and]
          cases hq : decide (out.length + 1 ≤ 4) with
          | false => rfl
          | true =>
            simp only [Bool.not_true, cond_false, cond_true]
            rw [apd_sm (by decide) (by unfold Sm; simp only [List.length_cons, List.length_nil]; omega)]
            rfl
      rw [foldP, step, List.all_cons]
      cases hn : numB x with
      | false => rfl
      | true =>
        simp only [Bool.true_and]
        cases hq : decide (out.length + 1 ≤ 4) with
        | false =>
          have : decide (out.length + (x :: r).length ≤ 4) = false := by simp only [decide_eq_false_iff_not, List.length_cons] at hq ⊢; omega
          rw [this]; simp
        | true =>
          simp only [cond_true]
          rw [ih (out ++ [valN x]) (fun y hy => hr y (List.mem_cons_of_mem _ hy)) (by simp only [List.length_append, List.length_cons, List.length_nil]; simpa using hq)]
          have e1 : (out ++ [valN x]).length + r.length = out.length + (x :: r).length := by simp only [List.length_append, List.length_cons, List.length_nil]; omega
          rw [e1, List.map_cons, List.append_assoc]
          rfl
  have key := fold (splitL (46 : UInt8) s) [] (fun x hx => splitL_mem 46 s x hx) (Nat.zero_le _)
  have key' : foldP g106_58 h106_58 (splitL (46 : UInt8) s) (((), ((), ((), ()))), (([] : List Int), (((), ()), ((false, ()), (([] : List Int), (((), ()), ())))))) =
        some (bif versOk s then (.inl (((), ((), ((), ()))), (([] : List Int), (((), ()), ((false, ()), (versL s, (((), ()), ()))))))) else (.inr (((), ((), ())), (([] : List Int), (((), ()), ((false, ()), ())))))) := by
    rw [key]
    unfold versOk versL partsL
    simp only [List.length_nil, Nat.zero_add, List.nil_append]
  simp only [f106, hble, cond_true, key', Option.bind_some]
  cases versOk s <;> rfl

theorem v_iVersionOk (a) (hs : Bd a.1.1.length) : f78 a = some ((versOk a.1.1, ()), ()) := by
  simp only [f78, v_readVersion ((a.1.1, ()), ()) hs, Option.bind_some]

/- Needs. -/
def needOk (n : Need) : Bool := pkName n.name && (n.kind == 0 && (n.version == []) || within n.kind 1 3 && versOk n.version)
abbrev BdN (n : Need) : Prop := Bd n.name.length ∧ Bd n.version.length

theorem v_NeedOk (a) (h1 : Bd a.1.1.1.length) (h2 : Bd a.1.1.2.2.1.length) : f143 a = some ((needOk ⟨a.1.1.1, a.1.1.2.1, a.1.1.2.2.1⟩, ()), ()) := by
  obtain ⟨⟨⟨n, k, v, u⟩, u'⟩, u''⟩ := a
  have h1 : n.length ≤ 2097152 := h1
  have h2 : v.length ≤ 2097152 := h2
  have e1 := v_l3Pack ((n, ()), ()) (show Sm n.length by unfold Sm; omega)
  have e2 := v_VersionOk ((v, ()), ()) h2
  simp only [f143, e1, e2, v_l1In, Option.bind_some, needOk]
  cases pkName n with
  | false => rfl
  | true =>
    cases hk : (k == 0) with
    | false =>
      simp only [cond_true, cond_false]
      cases within k 1 3 <;> cases versOk v <;> rfl
    | true =>
      have : within k 1 3 = false := by
        have : k = 0 := by simpa using hk
        subst this; decide
      rw [this]
      cases (v == []) <;> rfl

theorem within_no {k : Int} (k0 : ¬ k = 0) (k1 : ¬ k = 1) (k2 : ¬ k = 2) (k3 : ¬ k = 3) : within k 1 3 = false := by
  unfold within
  cases h : (decide (1 ≤ k) && decide (k ≤ 3)) with
  | false => rfl
  | true => simp only [Bool.and_eq_true, decide_eq_true_eq] at h; omega

theorem v_iNeedOk (a) (h1 : Bd a.1.1.1.length) (h2 : Bd a.1.1.2.2.1.length) : f80 a = some ((needOk ⟨a.1.1.1, a.1.1.2.1, a.1.1.2.2.1⟩, ()), ()) := by
  obtain ⟨⟨⟨n, k, v, u⟩, u'⟩, u''⟩ := a
  have h1 : n.length ≤ 2097152 := h1
  have h2 : v.length ≤ 2097152 := h2
  have e1 := v_packNameOk ((n, ()), ()) (show Sm n.length by unfold Sm; omega)
  have e2 := v_iVersionOk ((v, ()), ()) h2
  simp only [f80, e1, e2, Option.bind_some, needOk, g80_470]
  cases pkName n with
  | false => rfl
  | true =>
    simp only [Bool.not_true, cond_false, Bool.true_and]
    by_cases k0 : k = 0
    · subst k0
      cases (v == []) <;> rfl
    · have hk0 : (k == 0) = false := by simpa using k0
      rw [hk0]
      by_cases k1 : k = 1
      · subst k1; cases hv : versOk v <;> simp [within, e2, hv]
      · have hk1 : (k == 1) = false := by simpa using k1
        rw [hk1]
        by_cases k2 : k = 2
        · subst k2; cases hv : versOk v <;> simp [within, e2, hv]
        · have hk2 : (k == 2) = false := by simpa using k2
          rw [hk2]
          by_cases k3 : k = 3
          · subst k3; cases hv : versOk v <;> simp [within, e2, hv]
          · have hk3 : (k == 3) = false := by simpa using k3
            rw [hk3]
            rw [within_no k0 k1 k2 k3]
            rfl
end Go.Proofs

set_option maxRecDepth 100000
set_option linter.unusedVariables false
namespace Go.Proofs
open Go.Jk
-- 107 slices.Clone[[]string,string]
noncomputable def c107 : Ctx := { tt := tt, fs := fun n => match n with | _ => none }
theorem k107 (h : ∀ T, (tt T).ok Tryz.prog T) : CtxGood Tryz.prog c107 := ⟨⟨h⟩, fun g S hg => (by cases hg), tt_mo, fun _ _ h => (by cases h)⟩
noncomputable def b107 : Code := codeOf Tryz.f107
@[reducible] noncomputable def i107 : Shape := ⟨[(0, .lf (.d (.sl .str)))], [], 8⟩
@[reducible] noncomputable def o107 : Shape := ⟨[(2, .lf (.own 3000128))], [(3000128, .row .str, .slot 2 0)], 8⟩
noncomputable def f107 (a : i107.Y) : Option o107.Y :=
  twoRoads (t := .str) a.1.1 (some (((), ()), (([] : List Str), ()))) ((apd 16 ([] : List Str) a.1.1).bind fun x814 =>
  some (((), ()), (x814, ())))
theorem e107 : ∀ a, f107 a = bodyF (ctxWith c107 []) b107 i107 o107 a := fun a => by kernel_rfl
noncomputable def S107 : Summ := funSumm tt 8 i107 o107 [.tmp 2] f107
theorem z107 (h : ∀ T, (tt T).ok Tryz.prog T) : SummOk Tryz.prog 107 S107 :=
  have H := k107 h
  fun_at (fn := Tryz.f107) (fr := []) H (by kernel_rfl) (by kernel_rfl) (by kernel_rfl) (by kernel_rfl) (by kernel_rfl) frags_nil (fun y => ⟨_, rfl, rfl⟩) e107
end Go.Proofs

set_option maxRecDepth 100000
set_option linter.unusedVariables false
namespace Go.Proofs
open Go.Jk
-- 139 slices.Index[[]string,string]
noncomputable def c139 : Ctx := { tt := tt, fs := fun n => match n with | _ => none }
theorem k139 (h : ∀ T, (tt T).ok Tryz.prog T) : CtxGood Tryz.prog c139 := ⟨⟨h⟩, fun g S hg => (by cases hg), tt_mo, fun _ _ h => (by cases h)⟩
noncomputable def b139 : Code := codeOf Tryz.f139
@[reducible] noncomputable def s139_26 : Shape := ⟨[(0, .lf (.d (.sl .str))), (1, .lf (.d (.str))), (7, .lf (.d (.int .i64))), (8, .lf (.d (.int .i64)))], [], 19⟩
@[reducible] noncomputable def t139_26 : List OSh := [(.ret, ⟨[(4, .lf (.d (.int .i64)))], [], 19⟩), (.exit 0, ⟨[], [], 19⟩)]
noncomputable def g139_26 (y : s139_26.Y) : Option (Sum s139_26.Y (YS t139_26)) :=
  bif (decide (y.1.2.2.2.1 < y.1.2.2.1)) then
(ix y.1.1 y.1.2.2.2.1).bind fun x825 =>
  bif (y.1.2.1 == x825) then
  some (.inr (.inl ((y.1.2.2.2.1, ()), ())))
else
  some (.inl ((y.1.1, (y.1.2.1, (y.1.2.2.1, ((IntKind.i64.wrap (y.1.2.2.2.1 + (1 : Int))), ())))), ()))
else
  some (.inr (.inr ((), ())))
theorem r139_26 : ∀ y, g139_26 y = roundF (ctxWith c139 []) (unloop (codeAt b139 1 26)) 26 s139_26 t139_26 y := fun y => by kernel_rfl
noncomputable def l139_26 : s139_26.Y → Option (YS t139_26) := loopF g139_26
theorem q139_26 (H : CtxGood Tryz.prog c139) : FragOk Tryz.prog (codeAt b139 1 26) (fragOrc s139_26 t139_26 l139_26) :=
  loop_at (fr := []) H (by kernel_rfl) (by kernel_rfl) frags_nil (fun y => iter_congr r139_26 y)
@[reducible] noncomputable def i139 : Shape := ⟨[(0, .lf (.d (.sl .str))), (1, .lf (.d (.str)))], [], 19⟩
@[reducible] noncomputable def o139 : Shape := ⟨[(4, .lf (.d (.int .i64)))], [], 19⟩
noncomputable def f139 (a : i139.Y) : Option o139.Y :=
(l139_26 ((a.1.1, (a.1.2.1, ((a.1.1.length : Int), ((0 : Int), ())))), ())).bind fun r829 =>
(match r829 with
| .inl r830 =>
  some ((r830.1.1, ()), ())
| .inr r831 =>
  some ((((-1) : Int), ()), ()))
theorem e139 : ∀ a, f139 a = bodyF (ctxWith c139 [(26, fragOrc s139_26 t139_26 l139_26)]) b139 i139 o139 a := fun a => by kernel_rfl
noncomputable def S139 : Summ := funSumm tt 19 i139 o139 [.tmp 4] f139
theorem z139 (h : ∀ T, (tt T).ok Tryz.prog T) : SummOk Tryz.prog 139 S139 :=
  have H := k139 h
  fun_at (fn := Tryz.f139) (fr := [(26, fragOrc s139_26 t139_26 l139_26)]) H (by kernel_rfl) (by kernel_rfl) (by kernel_rfl) (by kernel_rfl) (by kernel_rfl) ⟨q139_26 H, trivial⟩ (fun y => ⟨_, rfl, rfl⟩) e139
end Go.Proofs

set_option maxRecDepth 100000
set_option linter.unusedVariables false
namespace Go.Proofs
open Go.Jk
-- 108 slices.Contains[[]string,string]
noncomputable def c108 : Ctx := { tt := tt, fs := fun n => match n with | 139 => some S139 | _ => none }
theorem k108 (h : ∀ T, (tt T).ok Tryz.prog T) (h139 : SummOk Tryz.prog 139 S139) : CtxGood Tryz.prog c108 := ⟨⟨h⟩, fun g S hg => (by
  simp only [c108] at hg
  split at hg
  · cases hg; exact h139
  · cases hg), tt_mo, fun _ _ h => (by cases h)⟩
noncomputable def b108 : Code := codeOf Tryz.f108
@[reducible] noncomputable def i108 : Shape := ⟨[(0, .lf (.d (.sl .str))), (1, .lf (.d (.str)))], [], 9⟩
@[reducible] noncomputable def o108 : Shape := ⟨[(4, .lf (.d (.bool)))], [], 9⟩
noncomputable def f108 (a : i108.Y) : Option o108.Y :=
(f139 ((a.1.1, (a.1.2.1, ())), ())).bind fun r833 =>
  some (((decide (r833.1.1 ≥ (0 : Int))), ()), ())
theorem e108 : ∀ a, f108 a = bodyF (ctxWith c108 []) b108 i108 o108 a := fun a => by kernel_rfl
noncomputable def S108 : Summ := funSumm tt 9 i108 o108 [.tmp 4] f108
theorem z108 (h : ∀ T, (tt T).ok Tryz.prog T) (h139 : SummOk Tryz.prog 139 S139) : SummOk Tryz.prog 108 S108 :=
  have H := k108 h h139
  fun_at (fn := Tryz.f108) (fr := []) H (by kernel_rfl) (by kernel_rfl) (by kernel_rfl) (by kernel_rfl) (by kernel_rfl) frags_nil (fun y => ⟨_, rfl, rfl⟩) e108
end Go.Proofs

set_option maxRecDepth 100000
set_option linter.unusedVariables false
namespace Go.Proofs
open Go.Jk
-- 112 loop.example/jackstay/spec.l4Needs
noncomputable def c112 : Ctx := { tt := tt, fs := fun n => match n with | 143 => some S143 | _ => none }
theorem k112 (h : ∀ T, (tt T).ok Tryz.prog T) (h143 : SummOk Tryz.prog 143 S143) : CtxGood Tryz.prog c112 := ⟨⟨h⟩, fun g S hg => (by
  simp only [c112] at hg
  split at hg
  · cases hg; exact h143
  · cases hg), tt_mo, fun _ _ h => (by cases h)⟩
noncomputable def b112 : Code := codeOf Tryz.f112
@[reducible] noncomputable def s112_26 : Shape := ⟨[(0, .lf (.d (.sl .need))), (3, .lf (.d (.int .i64)))], [], 19⟩
@[reducible] noncomputable def t112_26 : List OSh := [(.ret, ⟨[(2, .lf (.d (.bool)))], [], 19⟩), (.exit 0, ⟨[(0, .lf (.d (.sl .need)))], [], 19⟩)]
noncomputable def g112_26 (y : s112_26.Y) : Option (Sum s112_26.Y (YS t112_26)) :=
  bif (decide (y.1.2.1 < (y.1.1.length : Int))) then
(ix y.1.1 y.1.2.1).bind fun x251 =>
(f143 (((x251.name, (x251.kind, (x251.version, ()))), ()), ())).bind fun r252 =>
  bif (!r252.1.1) then
  some (.inr (.inl ((false, ()), ())))
else
  some (.inl ((y.1.1, ((IntKind.i64.wrap (y.1.2.1 + (1 : Int))), ())), ()))
else
  some (.inr (.inr ((y.1.1, ()), ())))
theorem r112_26 : ∀ y, g112_26 y = roundF (ctxWith c112 []) (unloop (codeAt b112 1 26)) 26 s112_26 t112_26 y := fun y => by kernel_rfl
noncomputable def l112_26 : s112_26.Y → Option (YS t112_26) := loopF g112_26
theorem q112_26 (H : CtxGood Tryz.prog c112) : FragOk Tryz.prog (codeAt b112 1 26) (fragOrc s112_26 t112_26 l112_26) :=
  loop_at (fr := []) H (by kernel_rfl) (by kernel_rfl) frags_nil (fun y => iter_congr r112_26 y)
@[reducible] noncomputable def i112 : Shape := ⟨[(0, .lf (.d (.sl .need)))], [], 19⟩
@[reducible] noncomputable def o112 : Shape := ⟨[(2, .lf (.d (.bool)))], [], 19⟩
noncomputable def f112 (a : i112.Y) : Option o112.Y :=
(l112_26 ((a.1.1, ((0 : Int), ())), ())).bind fun r262 =>
(match r262 with
| .inl r263 =>
  some ((r263.1.1, ()), ())
| .inr r264 =>
  some (((decide ((r264.1.1.length : Int) ≤ (6 : Int))), ()), ()))
theorem e112 : ∀ a, f112 a = bodyF (ctxWith c112 [(26, fragOrc s112_26 t112_26 l112_26)]) b112 i112 o112 a := fun a => by kernel_rfl
noncomputable def S112 : Summ := funSumm tt 19 i112 o112 [.tmp 2] f112
theorem z112 (h : ∀ T, (tt T).ok Tryz.prog T) (h143 : SummOk Tryz.prog 143 S143) : SummOk Tryz.prog 112 S112 :=
  have H := k112 h h143
  fun_at (fn := Tryz.f112) (fr := [(26, fragOrc s112_26 t112_26 l112_26)]) H (by kernel_rfl) (by kernel_rfl) (by kernel_rfl) (by kernel_rfl) (by kernel_rfl) ⟨q112_26 H, trivial⟩ (fun y => ⟨_, rfl, rfl⟩) e112
end Go.Proofs

set_option maxRecDepth 100000
set_option linter.unusedVariables false
namespace Go.Proofs
open Go.Jk
-- 53 loop.example/jackstay/spec.l4Twice
noncomputable def c53 : Ctx := { tt := tt, fs := fun n => match n with | _ => none }
theorem k53 (h : ∀ T, (tt T).ok Tryz.prog T) : CtxGood Tryz.prog c53 := ⟨⟨h⟩, fun g S hg => (by cases hg), tt_mo, fun _ _ h => (by cases h)⟩
noncomputable def b53 : Code := codeOf Tryz.f53
@[reducible] noncomputable def s53_1682 : Shape := ⟨[(0, .lf (.d (.sl .str))), (3, .lf (.d (.int .i64))), (4, .lf (.d (.int .i64)))], [], 25⟩
@[reducible] noncomputable def t53_1682 : List OSh := [(.ret, ⟨[(2, .lf (.d (.bool)))], [], 25⟩), (.exit 2, ⟨[(0, .lf (.d (.sl .str))), (3, .lf (.d (.int .i64)))], [], 25⟩)]
noncomputable def g53_1682 (y : s53_1682.Y) : Option (Sum s53_1682.Y (YS t53_1682)) :=
  bif (decide (y.1.2.2.1 < y.1.2.1)) then
(ix y.1.1 y.1.2.2.1).bind fun x272 =>
(ix y.1.1 y.1.2.1).bind fun x273 =>
  bif (x272 == x273) then
  some (.inr (.inl ((true, ()), ())))
else
  some (.inl ((y.1.1, (y.1.2.1, ((IntKind.i64.wrap (y.1.2.2.1 + (1 : Int))), ()))), ()))
else
  some (.inr (.inr ((y.1.1, (y.1.2.1, ())), ())))
theorem r53_1682 : ∀ y, g53_1682 y = roundF (ctxWith c53 []) (unloop (codeAt (unloop (codeAt b53 1 26)) 52 1682)) 1682 s53_1682 t53_1682 y := fun y => by kernel_rfl
noncomputable def l53_1682 : s53_1682.Y → Option (YS t53_1682) := loopF g53_1682
theorem q53_1682 (H : CtxGood Tryz.prog c53) : FragOk Tryz.prog (codeAt (unloop (codeAt b53 1 26)) 52 1682) (fragOrc s53_1682 t53_1682 l53_1682) :=
  loop_at (fr := []) H (by kernel_rfl) (by kernel_rfl) frags_nil (fun y => iter_congr r53_1682 y)
@[reducible] noncomputable def s53_26 : Shape := ⟨[(0, .lf (.d (.sl .str))), (3, .lf (.d (.int .i64)))], [], 25⟩
@[reducible] noncomputable def t53_26 : List OSh := [(.ret, ⟨[(2, .lf (.d (.bool)))], [], 25⟩), (.exit 0, ⟨[], [], 25⟩)]
noncomputable def g53_26 (y : s53_26.Y) : Option (Sum s53_26.Y (YS t53_26)) :=
  bif (decide (y.1.2.1 < (y.1.1.length : Int))) then
(l53_1682 ((y.1.1, (y.1.2.1, ((0 : Int), ()))), ())).bind fun r277 =>
(match r277 with
| .inl r278 =>
  some (.inr (.inl ((r278.1.1, ()), ())))
| .inr r279 =>
  some (.inl ((r279.1.1, ((IntKind.i64.wrap (r279.1.2.1 + (1 : Int))), ())), ())))
else
  some (.inr (.inr ((), ())))
theorem r53_26 : ∀ y, g53_26 y = roundF (ctxWith c53 [(1682, fragOrc s53_1682 t53_1682 l53_1682)]) (unloop (codeAt b53 1 26)) 26 s53_26 t53_26 y := fun y => by kernel_rfl
noncomputable def l53_26 : s53_26.Y → Option (YS t53_26) := loopF g53_26
theorem q53_26 (H : CtxGood Tryz.prog c53) : FragOk Tryz.prog (codeAt b53 1 26) (fragOrc s53_26 t53_26 l53_26) :=
  loop_at (fr := [(1682, fragOrc s53_1682 t53_1682 l53_1682)]) H (by kernel_rfl) (by kernel_rfl) ⟨q53_1682 H, trivial⟩ (fun y => iter_congr r53_26 y)
@[reducible] noncomputable def i53 : Shape := ⟨[(0, .lf (.d (.sl .str)))], [], 25⟩
@[reducible] noncomputable def o53 : Shape := ⟨[(2, .lf (.d (.bool)))], [], 25⟩
noncomputable def f53 (a : i53.Y) : Option o53.Y :=
(l53_26 ((a.1.1, ((0 : Int), ())), ())).bind fun r283 =>
(match r283 with
| .inl r284 =>
  some ((r284.1.1, ()), ())
| .inr r285 =>
  some ((false, ()), ()))
theorem e53 : ∀ a, f53 a = bodyF (ctxWith c53 [(26, fragOrc s53_26 t53_26 l53_26)]) b53 i53 o53 a := fun a => by kernel_rfl
noncomputable def S53 : Summ := funSumm tt 25 i53 o53 [.tmp 2] f53
theorem z53 (h : ∀ T, (tt T).ok Tryz.prog T) : SummOk Tryz.prog 53 S53 :=
  have H := k53 h
  fun_at (fn := Tryz.f53) (fr := [(26, fragOrc s53_26 t53_26 l53_26)]) H (by kernel_rfl) (by kernel_rfl) (by kernel_rfl) (by kernel_rfl) (by kernel_rfl) ⟨q53_26 H, trivial⟩ (fun y => ⟨_, rfl, rfl⟩) e53
end Go.Proofs

set_option maxRecDepth 100000
set_option linter.unusedVariables false
namespace Go.Proofs
open Go.Jk
-- 79v0 loop.example/jackstay/impl.all[loop.example/jackstay/impl.Need]
noncomputable def c79v0 : Ctx := { tt := tt, fs := fun n => match n with | 80 => some S80 | _ => none }
theorem k79v0 (h : ∀ T, (tt T).ok Tryz.prog T) (h80 : SummOk Tryz.prog 80 S80) : CtxGood Tryz.prog c79v0 := ⟨⟨h⟩, fun g S hg => (by
  simp only [c79v0] at hg
  split at hg
  · cases hg; exact h80
  · cases hg), tt_mo, fun _ _ h => (by cases h)⟩
noncomputable def b79v0 : Code := codeOf Tryz.f79
@[reducible] noncomputable def s79v0_26 : Shape := ⟨[(1, .lf (.fn 80 [])), (7, .lf (.d (.sl .need))), (8, .lf (.d (.int .i64))), (9, .lf (.d (.int .i64)))], [], 18⟩
@[reducible] noncomputable def t79v0_26 : List OSh := [(.ret, ⟨[(4, .lf (.d (.bool)))], [], 18⟩), (.exit 0, ⟨[], [], 18⟩)]
noncomputable def g79v0_26 (y : s79v0_26.Y) : Option (Sum s79v0_26.Y (YS t79v0_26)) :=
  bif (decide (y.1.2.2.2.1 < y.1.2.2.1)) then
(ix y.1.2.1 y.1.2.2.2.1).bind fun x803 =>
(f80 (((x803.name, (x803.kind, (x803.version, ()))), ()), ())).bind fun r805 =>
  bif (!r805.1.1) then
  some (.inr (.inl ((false, ()), ())))
else
  some (.inl (((), (y.1.2.1, (y.1.2.2.1, ((IntKind.i64.wrap (y.1.2.2.2.1 + (1 : Int))), ())))), ()))
else
  some (.inr (.inr ((), ())))
theorem r79v0_26 : ∀ y, g79v0_26 y = roundF (ctxWith c79v0 []) (unloop (codeAt b79v0 1 26)) 26 s79v0_26 t79v0_26 y := fun y => by kernel_rfl
noncomputable def l79v0_26 : s79v0_26.Y → Option (YS t79v0_26) := loopF g79v0_26
theorem q79v0_26 (H : CtxGood Tryz.prog c79v0) : FragOk Tryz.prog (codeAt b79v0 1 26) (fragOrc s79v0_26 t79v0_26 l79v0_26) :=
  loop_at (fr := []) H (by kernel_rfl) (by kernel_rfl) frags_nil (fun y => iter_congr r79v0_26 y)
@[reducible] noncomputable def i79v0 : Shape := ⟨[(0, .lf (.d (.sl .need))), (1, .lf (.fn 80 []))], [], 18⟩
@[reducible] noncomputable def o79v0 : Shape := ⟨[(4, .lf (.d (.bool)))], [], 18⟩
noncomputable def f79v0 (a : i79v0.Y) : Option o79v0.Y :=
(l79v0_26 (((), (a.1.1, ((a.1.1.length : Int), ((0 : Int), ())))), ())).bind fun r809 =>
(match r809 with
| .inl r810 =>
  some ((r810.1.1, ()), ())
| .inr r811 =>
  some ((true, ()), ()))
theorem e79v0 : ∀ a, f79v0 a = bodyF (ctxWith c79v0 [(26, fragOrc s79v0_26 t79v0_26 l79v0_26)]) b79v0 i79v0 o79v0 a := fun a => by kernel_rfl
noncomputable def S79v0 : Summ := funSumm tt 18 i79v0 o79v0 [.tmp 4] f79v0
theorem z79v0 (h : ∀ T, (tt T).ok Tryz.prog T) (h80 : SummOk Tryz.prog 80 S80) : SummOk Tryz.prog 79 S79v0 :=
  have H := k79v0 h h80
  fun_at (fn := Tryz.f79) (fr := [(26, fragOrc s79v0_26 t79v0_26 l79v0_26)]) H (by kernel_rfl) (by kernel_rfl) (by kernel_rfl) (by kernel_rfl) (by kernel_rfl) ⟨q79v0_26 H, trivial⟩ (fun y => ⟨_, rfl, rfl⟩) e79v0
end Go.Proofs

set_option maxRecDepth 100000
set_option linter.unusedVariables false
namespace Go.Proofs
open Go.Jk
-- 82 loop.example/jackstay/impl.needName
noncomputable def c82 : Ctx := { tt := tt, fs := fun n => match n with | _ => none }
theorem k82 (h : ∀ T, (tt T).ok Tryz.prog T) : CtxGood Tryz.prog c82 := ⟨⟨h⟩, fun g S hg => (by cases hg), tt_mo, fun _ _ h => (by cases h)⟩
noncomputable def b82 : Code := codeOf Tryz.f82
@[reducible] noncomputable def i82 : Shape := ⟨[(0, .agg [.d (.str), .d (.int .i64), .d (.str)])], [], 5⟩
@[reducible] noncomputable def o82 : Shape := ⟨[(2, .lf (.d (.str)))], [], 5⟩
noncomputable def f82 (a : i82.Y) : Option o82.Y :=
  some ((a.1.1.1, ()), ())
theorem e82 : ∀ a, f82 a = bodyF (ctxWith c82 []) b82 i82 o82 a := fun a => by kernel_rfl
noncomputable def S82 : Summ := funSumm tt 5 i82 o82 [.tmp 2] f82
theorem z82 (h : ∀ T, (tt T).ok Tryz.prog T) : SummOk Tryz.prog 82 S82 :=
  have H := k82 h
  fun_at (fn := Tryz.f82) (fr := []) H (by kernel_rfl) (by kernel_rfl) (by kernel_rfl) (by kernel_rfl) (by kernel_rfl) frags_nil (fun y => ⟨_, rfl, rfl⟩) e82
end Go.Proofs

set_option maxRecDepth 100000
set_option linter.unusedVariables false
namespace Go.Proofs
open Go.Jk
-- 81v0 loop.example/jackstay/impl.namesTwice[loop.example/jackstay/impl.Need]
noncomputable def c81v0 : Ctx := { tt := tt, fs := fun n => match n with | 82 => some S82 | 107 => some S107 | 108 => some S108 | _ => none }
theorem k81v0 (h : ∀ T, (tt T).ok Tryz.prog T) (h82 : SummOk Tryz.prog 82 S82) (h107 : SummOk Tryz.prog 107 S107) (h108 : SummOk Tryz.prog 108 S108) : CtxGood Tryz.prog c81v0 := ⟨⟨h⟩, fun g S hg => (by
  simp only [c81v0] at hg
  split at hg
  · cases hg; exact h82
  · cases hg; exact h107
  · cases hg; exact h108
  · cases hg), tt_mo, fun _ _ h => (by cases h)⟩
noncomputable def b81v0 : Code := codeOf Tryz.f81
@[reducible] noncomputable def s81v0_58 : Shape := ⟨[(1, .lf (.fn 82 [])), (7, .lf (.own 3000448)), (12, .lf (.d (.sl .need))), (13, .lf (.d (.int .i64))), (14, .lf (.d (.int .i64)))], [(3000448, .row .str, .slot 7 0)], 30⟩
@[reducible] noncomputable def t81v0_58 : List OSh := [(.ret, ⟨[(6, .lf (.d (.bool)))], [], 30⟩), (.exit 0, ⟨[], [], 30⟩)]
noncomputable def g81v0_58 (y : s81v0_58.Y) : Option (Sum s81v0_58.Y (YS t81v0_58)) :=
  bif (decide (y.1.2.2.2.2.1 < y.1.2.2.2.1)) then
(ix y.1.2.2.1 y.1.2.2.2.2.1).bind fun x844 =>
(f82 (((x844.name, (x844.kind, (x844.version, ()))), ()), ())).bind fun r851 =>
(f108 ((y.2.1, (r851.1.1, ())), ())).bind fun r852 =>
  bif r852.1.1 then
  some (.inr (.inl ((true, ()), ())))
else
(f82 (((x844.name, (x844.kind, (x844.version, ()))), ()), ())).bind fun r853 =>
(apd 16 y.2.1 ([r853.1.1] : List Str)).bind fun x854 =>
  some (.inl (((), ((), (y.1.2.2.1, (y.1.2.2.2.1, ((IntKind.i64.wrap (y.1.2.2.2.2.1 + (1 : Int))), ()))))), (x854, ())))
else
  some (.inr (.inr ((), ())))
theorem r81v0_58 : ∀ y, g81v0_58 y = roundF (ctxWith c81v0 []) (unloop (codeAt b81v0 1 58)) 58 s81v0_58 t81v0_58 y := fun y => by kernel_rfl
noncomputable def l81v0_58 : s81v0_58.Y → Option (YS t81v0_58) := loopF g81v0_58
theorem q81v0_58 (H : CtxGood Tryz.prog c81v0) : FragOk Tryz.prog (codeAt b81v0 1 58) (fragOrc s81v0_58 t81v0_58 l81v0_58) :=
  loop_at (fr := []) H (by kernel_rfl) (by kernel_rfl) frags_nil (fun y => iter_congr r81v0_58 y)
@[reducible] noncomputable def i81v0 : Shape := ⟨[(0, .lf (.d (.sl .need))), (1, .lf (.fn 82 [])), (2, .lf (.d (.sl .str)))], [], 30⟩
@[reducible] noncomputable def o81v0 : Shape := ⟨[(6, .lf (.d (.bool)))], [], 30⟩
noncomputable def f81v0 (a : i81v0.Y) : Option o81v0.Y :=
(f107 ((a.1.2.2.1, ()), ())).bind fun r859 =>
(l81v0_58 (((), ((), (a.1.1, ((a.1.1.length : Int), ((0 : Int), ()))))), (r859.2.1, ()))).bind fun r860 =>
(match r860 with
| .inl r861 =>
  some ((r861.1.1, ()), ())
| .inr r862 =>
  some ((false, ()), ()))
theorem e81v0 : ∀ a, f81v0 a = bodyF (ctxWith c81v0 [(58, fragOrc s81v0_58 t81v0_58 l81v0_58)]) b81v0 i81v0 o81v0 a := fun a => by kernel_rfl
noncomputable def S81v0 : Summ := funSumm tt 30 i81v0 o81v0 [.tmp 6] f81v0
theorem z81v0 (h : ∀ T, (tt T).ok Tryz.prog T) (h82 : SummOk Tryz.prog 82 S82) (h107 : SummOk Tryz.prog 107 S107) (h108 : SummOk Tryz.prog 108 S108) : SummOk Tryz.prog 81 S81v0 :=
  have H := k81v0 h h82 h107 h108
  fun_at (fn := Tryz.f81) (fr := [(58, fragOrc s81v0_58 t81v0_58 l81v0_58)]) H (by kernel_rfl) (by kernel_rfl) (by kernel_rfl) (by kernel_rfl) (by kernel_rfl) ⟨q81v0_58 H, trivial⟩ (fun y => ⟨_, rfl, rfl⟩) e81v0
end Go.Proofs

set_option maxRecDepth 100000
set_option linter.unusedVariables false
namespace Go.Proofs
open Go.Jk
-- 86 loop.example/jackstay/spec.l7Needs
noncomputable def c86 : Ctx := { tt := tt, fs := fun n => match n with | 53 => some S53 | 112 => some S112 | _ => none }
theorem k86 (h : ∀ T, (tt T).ok Tryz.prog T) (h53 : SummOk Tryz.prog 53 S53) (h112 : SummOk Tryz.prog 112 S112) : CtxGood Tryz.prog c86 := ⟨⟨h⟩, fun g S hg => (by
  simp only [c86] at hg
  split at hg
  · cases hg; exact h53
  · cases hg; exact h112
  · cases hg), tt_mo, fun _ _ h => (by cases h)⟩
noncomputable def b86 : Code := codeOf Tryz.f86
@[reducible] noncomputable def s86_58 : Shape := ⟨[(1, .lf (.d (.sl .need))), (5, .lf (.own 3000320)), (6, .lf (.d (.int .i64)))], [(3000320, .row .str, .slot 5 0)], 30⟩
@[reducible] noncomputable def t86_58 : List OSh := [(.exit 0, ⟨[(1, .lf (.d (.sl .need))), (5, .lf (.own 3000320))], [(3000320, .row .str, .slot 5 0)], 30⟩)]
noncomputable def g86_58 (y : s86_58.Y) : Option (Sum s86_58.Y (YS t86_58)) :=
  bif (decide (y.1.2.2.1 < (y.1.1.length : Int))) then
(ix y.1.1 y.1.2.2.1).bind fun x231 =>
(apd 16 y.2.1 ([x231.name] : List Str)).bind fun x232 =>
  some (.inl ((y.1.1, ((), ((IntKind.i64.wrap (y.1.2.2.1 + (1 : Int))), ()))), (x232, ())))
else
  some (.inr (((y.1.1, ((), ())), (y.2.1, ()))))
theorem r86_58 : ∀ y, g86_58 y = roundF (ctxWith c86 []) (unloop (codeAt b86 1 58)) 58 s86_58 t86_58 y := fun y => by kernel_rfl
noncomputable def l86_58 : s86_58.Y → Option (YS t86_58) := loopF g86_58
theorem q86_58 (H : CtxGood Tryz.prog c86) : FragOk Tryz.prog (codeAt b86 1 58) (fragOrc s86_58 t86_58 l86_58) :=
  loop_at (fr := []) H (by kernel_rfl) (by kernel_rfl) frags_nil (fun y => iter_congr r86_58 y)
@[reducible] noncomputable def i86 : Shape := ⟨[(0, .lf (.d (.str))), (1, .lf (.d (.sl .need)))], [], 30⟩
@[reducible] noncomputable def o86 : Shape := ⟨[(4, .lf (.d (.bool)))], [], 30⟩
noncomputable def f86 (a : i86.Y) : Option o86.Y :=
(l86_58 ((a.1.2.1, ((), ((0 : Int), ()))), (([a.1.1] : List Str), ()))).bind fun r288 =>
(f112 ((r288.1.1, ()), ())).bind fun r289 =>
  bif r289.1.1 then
(f53 ((r288.2.1, ()), ())).bind fun r290 =>
  some (((!r290.1.1), ()), ())
else
  some ((false, ()), ())
theorem e86 : ∀ a, f86 a = bodyF (ctxWith c86 [(58, fragOrc s86_58 t86_58 l86_58)]) b86 i86 o86 a := fun a => by kernel_rfl
noncomputable def S86 : Summ := funSumm tt 30 i86 o86 [.tmp 4] f86
theorem z86 (h : ∀ T, (tt T).ok Tryz.prog T) (h53 : SummOk Tryz.prog 53 S53) (h112 : SummOk Tryz.prog 112 S112) : SummOk Tryz.prog 86 S86 :=
  have H := k86 h h53 h112
  fun_at (fn := Tryz.f86) (fr := [(58, fragOrc s86_58 t86_58 l86_58)]) H (by kernel_rfl) (by kernel_rfl) (by kernel_rfl) (by kernel_rfl) (by kernel_rfl) ⟨q86_58 H, trivial⟩ (fun y => ⟨_, rfl, rfl⟩) e86
end Go.Proofs

set_option maxRecDepth 100000
set_option linter.unusedVariables false
set_option linter.unusedSimpArgs false
namespace Go.Proofs
open Go.Jk

abbrev BdNs (ns : List Need) : Prop := Bd ns.length ∧ ∀ n, n ∈ ns → BdN n
theorem leb6 (n : Nat) (k : Nat) : decide ((n : Int) ≤ (k : Int)) = decide (n ≤ k) := by by_cases h : n ≤ k <;> simp [h] <;> omega

theorem v_l4Needs (a) (hs : BdNs a.1.1) : f112 a = some ((a.1.1.all needOk && decide (a.1.1.length ≤ 6), ()), ()) := by
  obtain ⟨⟨ns, u⟩, u'⟩ := a
  obtain ⟨hl, hn⟩ := hs
  have hl : ns.length ≤ 2097152 := hl
  have key : l112_26 ((ns, ((0 : Int), ())), ()) = some (bif allI (fun _ n => needOk n) 0 ns then .inr ((ns, ()), ()) else .inl ((false, ()), ())) := by
    refine loop_all g112_26 ns (fun i => ((ns, ((i : Int), ())), ())) _ _ _ (fun i x hx => ?_) ?_
    · have hi := get_lt hx
      have hw : Sm i := by unfold Sm; omega
      have hb := hn x (List.mem_of_getElem? hx)
      simp only [g112_26, lt_dec hi, cond_true, ix_nat, hx, Option.bind_some]
      rw [v_NeedOk _ hb.1 hb.2]
      simp only [Option.bind_some, wrap_add1 hw]
      cases needOk x <;> rfl
    · simp only [g112_26, nlt_dec, cond_false]
  rw [allI_all] at key
  simp only [f112, key, Option.bind_some]
  cases List.all ns needOk with
  | false => rfl
  | true => have := leb6 ns.length 6; simp only [cond_true, Bool.true_and]; rw [← this]; rfl

theorem v_allNeed (a) (hs : BdNs a.1.1) : f79v0 a = some ((a.1.1.all needOk, ()), ()) := by
  obtain ⟨⟨ns, u⟩, u'⟩ := a
  obtain ⟨hl, hn⟩ := hs
  have hl : ns.length ≤ 2097152 := hl
  have key : l79v0_26 (((), (ns, ((ns.length : Int), ((0 : Int), ())))), ()) = some (bif allI (fun _ n => needOk n) 0 ns then .inr ((), ()) else .inl ((false, ()), ())) := by
    refine loop_all g79v0_26 ns (fun i => (((), (ns, ((ns.length : Int), ((i : Int), ())))), ())) _ _ _ (fun i x hx => ?_) ?_
    · have hi := get_lt hx
      have hw : Sm i := by unfold Sm; omega
      have hb := hn x (List.mem_of_getElem? hx)
      simp only [g79v0_26, lt_dec hi, cond_true, ix_nat, hx, Option.bind_some]
      rw [v_iNeedOk _ hb.1 hb.2]
      simp only [Option.bind_some, wrap_add1 hw]
      cases needOk x <;> rfl
    · simp only [g79v0_26, nlt_dec, cond_false]
  rw [allI_all] at key
  simp only [f79v0, key, Option.bind_some]
  cases List.all ns needOk <;> rfl

/-- A name that comes twice. -/
def dupA : List Str → List Str → Bool
  | _, [] => false
  | acc, x :: r => acc.contains x || dupA (acc ++ [x]) r

theorem dup_allI (xs : List Str) : ∀ (r : List Str) (k : Nat), r = xs.drop k → allI (fun i x => !((xs.take i).contains x)) k r = !dupA (xs.take k) r := by
  intro r
  induction r with
  | nil => intro k _; rfl
  | cons x r ih =>
    intro k hr
    have hr' : r = xs.drop (k + 1) := by
      have := congrArg List.tail hr
      simpa using this
    have hx : xs[k]? = some x := by
      have := congrArg (fun l => l[0]?) hr
      simpa using this.symm
    have e1 : xs.take (k + 1) = xs.take k ++ [x] := by rw [List.take_add_one, hx]; rfl
    simp only [allI, dupA, ih (k + 1) hr', e1, Bool.not_or]

theorem all_not (ys : List Str) (x : Str) : ys.all (fun y => !(y == x)) = !ys.contains x := by
  induction ys with
  | nil => rfl
  | cons y ys ih =>
    simp only [List.all_cons, ih, List.contains_cons, Bool.not_or]
    congr 2
    cases h : y == x with
    | true => rw [eq_of_beq h]; simp
    | false =>
      cases h2 : x == y with
      | true => rw [eq_of_beq h2] at h; simp at h
      | false => rfl

theorem v_l4Twice (a) (hs : Bd a.1.1.length) : f53 a = some ((dupA [] a.1.1, ()), ()) := by
  obtain ⟨⟨xs, u⟩, u'⟩ := a
  have hs : xs.length ≤ 2097152 := hs
  have inner : ∀ (i : Nat) (x : Str), xs[i]? = some x → l53_1682 ((xs, ((i : Int), ((0 : Int), ()))), ()) = some (bif !((xs.take i).contains x) then .inr ((xs, ((i : Int), ())), ()) else .inl ((true, ()), ())) := by
    intro i x hx
    have hi := get_lt hx
    have hl : (xs.take i).length = i := by rw [List.length_take]; omega
    have := loop_all g53_1682 (xs.take i) (fun k => ((xs, ((i : Int), ((k : Int), ()))), ())) (fun _ y => !(y == x)) (.inl ((true, ()), ())) (.inr ((xs, ((i : Int), ())), ())) (fun k y hy => ?_) ?_
    · have := this
      rw [allI_all, all_not] at this
      exact this
    · have hk := get_lt hy
      rw [hl] at hk
      have hw : Sm k := by unfold Sm; omega
      have hy' : xs[k]? = some y := by
        rw [List.getElem?_take, if_pos hk] at hy
        exact hy
      simp only [g53_1682, lt_dec hk, cond_true, ix_nat, hy', hx, Option.bind_some, wrap_add1 hw]
      cases (y == x) <;> rfl
    · simp only [g53_1682, hl, nlt_dec, cond_false]
  have key : l53_26 ((xs, ((0 : Int), ())), ()) = some (bif allI (fun i x => !((xs.take i).contains x)) 0 xs then .inr ((), ()) else .inl ((true, ()), ())) := by
    refine loop_all g53_26 xs (fun i => ((xs, ((i : Int), ())), ())) _ _ _ (fun i x hx => ?_) ?_
    · have hi := get_lt hx
      have hw : Sm i := by unfold Sm; omega
      simp only [g53_26, lt_dec hi, cond_true, inner i x hx, Option.bind_some]
      cases (xs.take i).contains x
      · simp only [Bool.not_false, cond_true, wrap_add1 hw]
      · rfl
    · simp only [g53_26, nlt_dec, cond_false]
  rw [dup_allI xs xs 0 rfl] at key
  simp only [f53, key, Option.bind_some, List.take_zero]
  cases dupA [] xs <;> rfl

/-- The needs of a package. -/
def needsOk (name : Str) (ns : List Need) : Bool := ns.all needOk && decide (ns.length ≤ 6) && !dupA [] (name :: ns.map (·.name))

theorem v_l7Needs (a) (hs : BdNs a.1.2.1) (hn : Bd a.1.1.length) : f86 a = some ((needsOk a.1.1 a.1.2.1, ()), ()) := by
  obtain ⟨⟨name, ns, u⟩, u'⟩ := a
  have hl : ns.length ≤ 2097152 := hs.1
  have key : l86_58 ((ns, ((), ((0 : Int), ()))), (([name] : List Str), ())) = some (((ns, ((), ())), ((name :: ns.map (·.name)), ()))) := by
    have := loop_fold g86_58 ns (fun i (out : List Str) => ((ns, ((), ((i : Int), ()))), (out, ()))) (fun (n : Need) out => out ++ [n.name]) (fun out => (((ns, ((), ())), (out, ())) : YS t86_58)) (fun i out => out.length = i + 1) [name] rfl (fun i x out hx hI => ?_) (fun out _ => ?_)
    · refine this.trans ?_
      have e : ∀ (r : List Need) (out : List Str), r.foldl (fun s x => s ++ [x.name]) out = out ++ r.map (·.name) := by
        intro r
        induction r with
        | nil => intro out; simp
        | cons n r ih => intro out; simp [ih]
      rw [e]; rfl
    · have hi := get_lt hx
      have hw : Sm i := by unfold Sm; omega
      refine ⟨?_, by simp [hI]⟩
      simp only [g86_58, lt_dec hi, cond_true, ix_nat, hx, Option.bind_some]
      rw [apd_sm (by decide) (by unfold Sm; simp only [List.length_cons, List.length_nil]; omega)]
      simp only [Option.bind_some, wrap_add1 hw]
    · simp only [g86_58, nlt_dec, cond_false]
  simp only [f86, key, Option.bind_some]
  rw [v_l4Needs _ hs]
  simp only [Option.bind_some]
  unfold needsOk
  cases hq : (List.all ns needOk && decide (ns.length ≤ 6)) with
  | false => rfl
  | true =>
    simp only [Bool.and_eq_true, decide_eq_true_eq] at hq
    have tw := v_l4Twice ((name :: ns.map (·.name), ()), ()) (show (name :: ns.map (·.name)).length ≤ 2097152 by simp only [List.length_cons, List.length_map]; omega)
    simp only [cond_true, Bool.true_and, tw, Option.bind_some]

theorem v_Index (a) (hs : Bd a.1.1.length) : ∃ n : Int, f139 a = some ((n, ()), ()) ∧ decide (n ≥ 0) = a.1.1.contains a.1.2.1 := by
  obtain ⟨⟨xs, x, u⟩, u'⟩ := a
  have hs : xs.length ≤ 2097152 := hs
  have key : l139_26 ((xs, (x, ((xs.length : Int), ((0 : Int), ())))), ()) = _ := loop_list g139_26 xs (fun i (_ : Unit) => ((xs, (x, ((xs.length : Int), ((i : Int), ())))), ()))
    (fun i y _ => some (bif x == y then .inr ((.inl (((i : Int), ()), ())) : YS t139_26) else .inl ())) (fun _ => .inr ((), ())) (fun i y s hy => ?_) (fun s => ?_) ()
  · have fold : ∀ (r : List Str) (k : Nat), ∃ n : Int, (foldB (fun i y (_ : Unit) => some (bif x == y then .inr ((.inl (((i : Int), ()), ())) : YS t139_26) else .inl ())) (fun _ => (.inr ((), ()) : YS t139_26)) k r ()).bind (fun r833 =>
        (match r833 with
        | .inl r834 => some ((r834.1.1, ()), ())
        | .inr r835 => some ((((-1) : Int), ()), ()) : Option o139.Y)) = some ((n, ()), ()) ∧ decide (n ≥ 0) = r.contains x := by
      intro r
      induction r with
      | nil => intro k; exact ⟨-1, rfl, rfl⟩
      | cons y r ih =>
        intro k
        simp only [foldB, List.contains_cons]
        cases hxy : x == y with
        | true => exact ⟨k, rfl, by simp⟩
        | false =>
          obtain ⟨n, h1, h2⟩ := ih (k + 1)
          exact ⟨n, h1, by simpa using h2⟩
    obtain ⟨n, h1, h2⟩ := fold xs 0
    refine ⟨n, ?_, h2⟩
    simp only [f139]
    rw [key]
    exact h1
  · have hi := get_lt hy
    have hw : Sm i := by unfold Sm; omega
    simp only [g139_26, lt_dec hi, cond_true, ix_nat, hy, Option.bind_some, wrap_add1 hw]
    cases x == y <;> rfl
  · simp only [g139_26, nlt_dec, cond_false]

theorem v_Contains (a) (hs : Bd a.1.1.length) : f108 a = some ((a.1.1.contains a.1.2.1, ()), ()) := by
  obtain ⟨n, h1, h2⟩ := v_Index ((a.1.1, (a.1.2.1, ())), ()) hs
  simp only [f108, h1, Option.bind_some, h2]

theorem v_CloneS (a) (hs : Bd a.1.1.length) : f107 a = some (((), ()), (a.1.1, ())) := by
  obtain ⟨⟨xs, u⟩, u'⟩ := a
  have hs : xs.length ≤ 2097152 := hs
  have h2 : (apd 16 ([] : List Str) xs).bind (fun x => some (((), ()), (x, ()))) = (some (((), ()), (xs, ())) : Option o107.Y) := by
    rw [apd_sm (by decide) (by unfold Sm; simp only [List.length_nil]; omega)]; rfl
  simp only [f107]
  rw [h2]
  unfold twoRoads
  split
  · rfl
  · rename_i h
    exact absurd (fun he : xs = [] => by subst he; rfl) h

theorem v_namesTwice (a) (hs : BdNs a.1.1) (hm : a.1.2.2.1.length ≤ 1) : f81v0 a = some ((dupA a.1.2.2.1 (a.1.1.map (·.name)), ()), ()) := by
  obtain ⟨⟨ns, u0, more, u⟩, u'⟩ := a
  have hl : ns.length ≤ 2097152 := hs.1
  have hm : more.length ≤ 1 := hm
  have hc := v_CloneS ((more, ()), ()) (show more.length ≤ 2097152 by omega)
  have key : (l81v0_58 (((), ((), (ns, ((ns.length : Int), ((0 : Int), ()))))), (more, ()))) = _ := loop_inv g81v0_58 ns (fun i (out : List Str) => (((), ((), (ns, ((ns.length : Int), ((i : Int), ()))))), (out, ())))
    (fun i (n : Need) out => some (bif out.contains n.name then .inr ((.inl ((true, ()), ())) : YS t81v0_58) else .inl (out ++ [n.name]))) (fun _ => .inr ((), ())) (fun i out => out.length ≤ i + 1) more (by omega) (fun i x out hx hI => ?_) (fun out _ => ?_)
  · have fold : ∀ (r : List Need) (k : Nat) (out : List Str), (foldB (fun i (n : Need) out => some (bif out.contains n.name then .inr ((.inl ((true, ()), ())) : YS t81v0_58) else .inl (out ++ [n.name]))) (fun _ => (.inr ((), ()) : YS t81v0_58)) k r out) =
        some (bif dupA out (r.map (·.name)) then .inl ((true, ()), ()) else .inr ((), ())) := by
      intro r
      induction r with
      | nil => intro k out; rfl
      | cons n r ih =>
        intro k out
        simp only [foldB, List.map_cons, dupA]
        cases out.contains n.name with
        | true => rfl
        | false => simp only [cond_false, Bool.false_or]; exact ih _ _
    rw [fold] at key
    simp only [f81v0, hc, Option.bind_some, key]
    cases dupA more (ns.map (·.name)) <;> rfl
  · have hi := get_lt hx
    have hw : Sm i := by unfold Sm; omega
    refine ⟨?_, fun s' h' => ?_⟩
    · simp only [g81v0_58, lt_dec hi, cond_true, ix_nat, hx, Option.bind_some, f82]
      rw [v_Contains _ (show Bd out.length by show out.length ≤ 2097152; omega)]
      simp only [Option.bind_some]
      cases hq : out.contains x.name with
      | true => rfl
      | false =>
        simp only [cond_false]
        rw [apd_sm (by decide) (by unfold Sm; simp only [List.length_cons, List.length_nil]; omega)]
        simp only [Option.bind_some, wrap_add1 hw, Option.map_some]
    · simp only [Option.some.injEq] at h'
      cases hq : out.contains x.name with
      | true => rw [hq] at h'; cases h'
      | false =>
        rw [hq] at h'
        simp only [cond_false, Sum.inl.injEq] at h'
        subst h'
        simp only [List.length_append, List.length_cons, List.length_nil]; omega
  · simp only [g81v0_58, nlt_dec, cond_false]
end Go.Proofs

set_option maxRecDepth 100000
set_option linter.unusedVariables false
namespace Go.Proofs
open Go.Jk
-- 168 loop.example/jackstay/spec.l1Small
noncomputable def c168 : Ctx := { tt := tt, fs := fun n => match n with | _ => none }
theorem k168 (h : ∀ T, (tt T).ok Tryz.prog T) : CtxGood Tryz.prog c168 := ⟨⟨h⟩, fun g S hg => (by cases hg), tt_mo, fun _ _ h => (by cases h)⟩
noncomputable def b168 : Code := codeOf Tryz.f168
@[reducible] noncomputable def i168 : Shape := ⟨[(0, .lf (.d (.int .u8)))], [], 29⟩
@[reducible] noncomputable def o168 : Shape := ⟨[(2, .lf (.d (.bool)))], [], 29⟩
noncomputable def f168 (a : i168.Y) : Option o168.Y :=
  bif (decide (a.1.1 ≥ (97 : Int))) then
  bif (!(decide (a.1.1 ≤ (122 : Int)))) then
  bif (decide (a.1.1 ≥ (48 : Int))) then
  bif (!(decide (a.1.1 ≤ (57 : Int)))) then
  bif (!(a.1.1 == (46 : Int))) then
  bif (!(a.1.1 == (95 : Int))) then
  some (((a.1.1 == (45 : Int)), ()), ())
else
  some ((true, ()), ())
else
  some ((true, ()), ())
else
  some ((true, ()), ())
else
  bif (!(a.1.1 == (46 : Int))) then
  bif (!(a.1.1 == (95 : Int))) then
  some (((a.1.1 == (45 : Int)), ()), ())
else
  some ((true, ()), ())
else
  some ((true, ()), ())
else
  some ((true, ()), ())
else
  bif (decide (a.1.1 ≥ (48 : Int))) then
  bif (!(decide (a.1.1 ≤ (57 : Int)))) then
  bif (!(a.1.1 == (46 : Int))) then
  bif (!(a.1.1 == (95 : Int))) then
  some (((a.1.1 == (45 : Int)), ()), ())
else
  some ((true, ()), ())
else
  some ((true, ()), ())
else
  some ((true, ()), ())
else
  bif (!(a.1.1 == (46 : Int))) then
  bif (!(a.1.1 == (95 : Int))) then
  some (((a.1.1 == (45 : Int)), ()), ())
else
  some ((true, ()), ())
else
  some ((true, ()), ())
theorem e168 : ∀ a, f168 a = bodyF (ctxWith c168 []) b168 i168 o168 a := fun a => by kernel_rfl
noncomputable def S168 : Summ := funSumm tt 29 i168 o168 [.tmp 2] f168
theorem z168 (h : ∀ T, (tt T).ok Tryz.prog T) : SummOk Tryz.prog 168 S168 :=
  have H := k168 h
  fun_at (fn := Tryz.f168) (fr := []) H (by kernel_rfl) (by kernel_rfl) (by kernel_rfl) (by kernel_rfl) (by kernel_rfl) frags_nil (fun y => ⟨_, rfl, rfl⟩) e168
end Go.Proofs

set_option maxRecDepth 100000
set_option linter.unusedVariables false
namespace Go.Proofs
open Go.Jk
-- 158 loop.example/jackstay/spec.l1Name
noncomputable def c158 : Ctx := { tt := tt, fs := fun n => match n with | 110 => some S110 | 168 => some S168 | _ => none }
theorem k158 (h : ∀ T, (tt T).ok Tryz.prog T) (h110 : SummOk Tryz.prog 110 S110) (h168 : SummOk Tryz.prog 168 S168) : CtxGood Tryz.prog c158 := ⟨⟨h⟩, fun g S hg => (by
  simp only [c158] at hg
  split at hg
  · cases hg; exact h110
  · cases hg; exact h168
  · cases hg), tt_mo, fun _ _ h => (by cases h)⟩
noncomputable def b158 : Code := codeOf Tryz.f158
@[reducible] noncomputable def s158_26 : Shape := ⟨[(0, .lf (.d (.str))), (3, .lf (.d (.int .i64)))], [], 26⟩
@[reducible] noncomputable def t158_26 : List OSh := [(.ret, ⟨[(2, .lf (.d (.bool)))], [], 26⟩), (.exit 0, ⟨[(0, .lf (.d (.str)))], [], 26⟩)]
noncomputable def g158_26 (y : s158_26.Y) : Option (Sum s158_26.Y (YS t158_26)) :=
  bif (decide (y.1.2.1 < (y.1.1.length : Int))) then
(ix y.1.1 y.1.2.1).bind fun x305 =>
(f168 (((x305.toNat : Int), ()), ())).bind fun r306 =>
  bif (!r306.1.1) then
  some (.inr (.inl ((false, ()), ())))
else
  some (.inl ((y.1.1, ((IntKind.i64.wrap (y.1.2.1 + (1 : Int))), ())), ()))
else
  some (.inr (.inr ((y.1.1, ()), ())))
theorem r158_26 : ∀ y, g158_26 y = roundF (ctxWith c158 []) (unloop (codeAt b158 1 26)) 26 s158_26 t158_26 y := fun y => by kernel_rfl
noncomputable def l158_26 : s158_26.Y → Option (YS t158_26) := loopF g158_26
theorem q158_26 (H : CtxGood Tryz.prog c158) : FragOk Tryz.prog (codeAt b158 1 26) (fragOrc s158_26 t158_26 l158_26) :=
  loop_at (fr := []) H (by kernel_rfl) (by kernel_rfl) frags_nil (fun y => iter_congr r158_26 y)
@[reducible] noncomputable def i158 : Shape := ⟨[(0, .lf (.d (.str)))], [], 26⟩
@[reducible] noncomputable def o158 : Shape := ⟨[(2, .lf (.d (.bool)))], [], 26⟩
noncomputable def f158 (a : i158.Y) : Option o158.Y :=
(l158_26 ((a.1.1, ((0 : Int), ())), ())).bind fun r317 =>
(match r317 with
| .inl r318 =>
  some ((r318.1.1, ()), ())
| .inr r319 =>
(f110 (((r319.1.1.length : Int), ((1 : Int), ((10 : Int), ()))), ())).bind fun r320 =>
  bif r320.1.1 then
  bif (!(r319.1.1 == ([46] : Str))) then
  some (((!(r319.1.1 == ([46, 46] : Str))), ()), ())
else
  some ((false, ()), ())
else
  some ((false, ()), ()))
theorem e158 : ∀ a, f158 a = bodyF (ctxWith c158 [(26, fragOrc s158_26 t158_26 l158_26)]) b158 i158 o158 a := fun a => by kernel_rfl
noncomputable def S158 : Summ := funSumm tt 26 i158 o158 [.tmp 2] f158
theorem z158 (h : ∀ T, (tt T).ok Tryz.prog T) (h110 : SummOk Tryz.prog 110 S110) (h168 : SummOk Tryz.prog 168 S168) : SummOk Tryz.prog 158 S158 :=
  have H := k158 h h110 h168
  fun_at (fn := Tryz.f158) (fr := [(26, fragOrc s158_26 t158_26 l158_26)]) H (by kernel_rfl) (by kernel_rfl) (by kernel_rfl) (by kernel_rfl) (by kernel_rfl) ⟨q158_26 H, trivial⟩ (fun y => ⟨_, rfl, rfl⟩) e158
end Go.Proofs

set_option maxRecDepth 100000
set_option linter.unusedVariables false
namespace Go.Proofs
open Go.Jk
-- 144 loop.example/jackstay/spec.l1Path
noncomputable def c144 : Ctx := { tt := tt, fs := fun n => match n with | 141 => some S141 | 158 => some S158 | _ => none }
theorem k144 (h : ∀ T, (tt T).ok Tryz.prog T) (h141 : SummOk Tryz.prog 141 S141) (h158 : SummOk Tryz.prog 158 S158) : CtxGood Tryz.prog c144 := ⟨⟨h⟩, fun g S hg => (by
  simp only [c144] at hg
  split at hg
  · cases hg; exact h141
  · cases hg; exact h158
  · cases hg), tt_mo, fun _ _ h => (by cases h)⟩
noncomputable def b144 : Code := codeOf Tryz.f144
@[reducible] noncomputable def s144_58 : Shape := ⟨[(3, .lf (.own 3000192)), (4, .lf (.d (.int .i64)))], [(3000192, .row .str, .slot 3 0)], 25⟩
@[reducible] noncomputable def t144_58 : List OSh := [(.ret, ⟨[(2, .lf (.d (.bool)))], [], 25⟩), (.exit 0, ⟨[(3, .lf (.own 3000192))], [(3000192, .row .str, .slot 3 0)], 25⟩)]
noncomputable def g144_58 (y : s144_58.Y) : Option (Sum s144_58.Y (YS t144_58)) :=
  bif (decide (y.1.2.1 < (y.2.1.length : Int))) then
(inb y.2.1.length y.1.2.1).bind fun x328 =>
(y.2.1[x328]?).bind fun x329 =>
(f158 ((x329, ()), ())).bind fun r330 =>
  bif (!r330.1.1) then
  some (.inr (.inl ((false, ()), ())))
else
  some (.inl (((), ((IntKind.i64.wrap (y.1.2.1 + (1 : Int))), ())), (y.2.1, ())))
else
  some (.inr (.inr (((), ()), (y.2.1, ()))))
theorem r144_58 : ∀ y, g144_58 y = roundF (ctxWith c144 []) (unloop (codeAt b144 1 58)) 58 s144_58 t144_58 y := fun y => by kernel_rfl
noncomputable def l144_58 : s144_58.Y → Option (YS t144_58) := loopF g144_58
theorem q144_58 (H : CtxGood Tryz.prog c144) : FragOk Tryz.prog (codeAt b144 1 58) (fragOrc s144_58 t144_58 l144_58) :=
  loop_at (fr := []) H (by kernel_rfl) (by kernel_rfl) frags_nil (fun y => iter_congr r144_58 y)
@[reducible] noncomputable def i144 : Shape := ⟨[(0, .lf (.d (.str)))], [], 25⟩
@[reducible] noncomputable def o144 : Shape := ⟨[(2, .lf (.d (.bool)))], [], 25⟩
noncomputable def f144 (a : i144.Y) : Option o144.Y :=
(f141 ((a.1.1, ((47 : Int), ((IntKind.i64.wrap ((a.1.1.length : Int) + (1 : Int))), ()))), ())).bind fun r338 =>
(l144_58 (((), ((0 : Int), ())), (r338.2.1, ()))).bind fun r342 =>
(match r342 with
| .inl r343 =>
  some ((r343.1.1, ()), ())
| .inr r344 =>
  some (((decide ((r344.2.1.length : Int) ≤ (5 : Int))), ()), ()))
theorem e144 : ∀ a, f144 a = bodyF (ctxWith c144 [(58, fragOrc s144_58 t144_58 l144_58)]) b144 i144 o144 a := fun a => by kernel_rfl
noncomputable def S144 : Summ := funSumm tt 25 i144 o144 [.tmp 2] f144
theorem z144 (h : ∀ T, (tt T).ok Tryz.prog T) (h141 : SummOk Tryz.prog 141 S141) (h158 : SummOk Tryz.prog 158 S158) : SummOk Tryz.prog 144 S144 :=
  have H := k144 h h141 h158
  fun_at (fn := Tryz.f144) (fr := [(58, fragOrc s144_58 t144_58 l144_58)]) H (by kernel_rfl) (by kernel_rfl) (by kernel_rfl) (by kernel_rfl) (by kernel_rfl) ⟨q144_58 H, trivial⟩ (fun y => ⟨_, rfl, rfl⟩) e144
end Go.Proofs

set_option maxRecDepth 100000
set_option linter.unusedVariables false
namespace Go.Proofs
open Go.Jk
-- 145 loop.example/jackstay/spec.l2Text
noncomputable def c145 : Ctx := { tt := tt, fs := fun n => match n with | 110 => some S110 | _ => none }
theorem k145 (h : ∀ T, (tt T).ok Tryz.prog T) (h110 : SummOk Tryz.prog 110 S110) : CtxGood Tryz.prog c145 := ⟨⟨h⟩, fun g S hg => (by
  simp only [c145] at hg
  split at hg
  · cases hg; exact h110
  · cases hg), tt_mo, fun _ _ h => (by cases h)⟩
noncomputable def b145 : Code := codeOf Tryz.f145
@[reducible] noncomputable def s145_840 : Shape := ⟨[(0, .lf (.d (.str))), (3, .lf (.d (.int .i64)))], [], 25⟩
@[reducible] noncomputable def t145_840 : List OSh := [(.norm, ⟨[(0, .lf (.d (.str))), (3, .lf (.d (.int .i64))), (21, .lf (.d (.bool)))], [], 25⟩)]
noncomputable def g145_840 (y : s145_840.Y) : Option (YS t145_840) :=
(ix y.1.1 y.1.2.1).bind fun x357 =>
  bif ((x357.toNat : Int) != (10 : Int)) then
(ix y.1.1 y.1.2.1).bind fun x358 =>
(f110 (((IntKind.i64.wrap (x358.toNat : Int)), ((32 : Int), ((126 : Int), ()))), ())).bind fun r359 =>
  some (((y.1.1, (y.1.2.1, ((!r359.1.1), ()))), ()))
else
  some (((y.1.1, (y.1.2.1, (false, ()))), ()))
theorem r145_840 : ∀ y, g145_840 y = pieceF (ctxWith c145 []) (codeAt (unloop (codeAt b145 1 26)) 52 840) 840 s145_840 t145_840 y := fun y => by kernel_rfl
theorem q145_840 (H : CtxGood Tryz.prog c145) : FragOk Tryz.prog (codeAt (unloop (codeAt b145 1 26)) 52 840) (fragOrc s145_840 t145_840 g145_840) :=
  piece_at (fr := []) H (by kernel_rfl) frags_nil r145_840
@[reducible] noncomputable def s145_26 : Shape := ⟨[(0, .lf (.d (.str))), (3, .lf (.d (.int .i64)))], [], 25⟩
@[reducible] noncomputable def t145_26 : List OSh := [(.ret, ⟨[(2, .lf (.d (.bool)))], [], 25⟩), (.exit 0, ⟨[(0, .lf (.d (.str)))], [], 25⟩)]
noncomputable def g145_26 (y : s145_26.Y) : Option (Sum s145_26.Y (YS t145_26)) :=
  bif (decide (y.1.2.1 < (y.1.1.length : Int))) then
(g145_840 ((y.1.1, (y.1.2.1, ())), ())).bind fun r361 =>
  bif r361.1.2.2.1 then
  some (.inr (.inl ((false, ()), ())))
else
  some (.inl ((r361.1.1, ((IntKind.i64.wrap (r361.1.2.1 + (1 : Int))), ())), ()))
else
  some (.inr (.inr ((y.1.1, ()), ())))
theorem r145_26 : ∀ y, g145_26 y = roundF (ctxWith c145 [(840, fragOrc s145_840 t145_840 g145_840)]) (unloop (codeAt b145 1 26)) 26 s145_26 t145_26 y := fun y => by kernel_rfl
noncomputable def l145_26 : s145_26.Y → Option (YS t145_26) := loopF g145_26
theorem q145_26 (H : CtxGood Tryz.prog c145) : FragOk Tryz.prog (codeAt b145 1 26) (fragOrc s145_26 t145_26 l145_26) :=
  loop_at (fr := [(840, fragOrc s145_840 t145_840 g145_840)]) H (by kernel_rfl) (by kernel_rfl) ⟨q145_840 H, trivial⟩ (fun y => iter_congr r145_26 y)
@[reducible] noncomputable def i145 : Shape := ⟨[(0, .lf (.d (.str)))], [], 25⟩
@[reducible] noncomputable def o145 : Shape := ⟨[(2, .lf (.d (.bool)))], [], 25⟩
noncomputable def f145 (a : i145.Y) : Option o145.Y :=
(l145_26 ((a.1.1, ((0 : Int), ())), ())).bind fun r371 =>
(match r371 with
| .inl r372 =>
  some ((r372.1.1, ()), ())
| .inr r373 =>
  some (((decide ((r373.1.1.length : Int) ≤ (80 : Int))), ()), ()))
theorem e145 : ∀ a, f145 a = bodyF (ctxWith c145 [(26, fragOrc s145_26 t145_26 l145_26)]) b145 i145 o145 a := fun a => by kernel_rfl
noncomputable def S145 : Summ := funSumm tt 25 i145 o145 [.tmp 2] f145
theorem z145 (h : ∀ T, (tt T).ok Tryz.prog T) (h110 : SummOk Tryz.prog 110 S110) : SummOk Tryz.prog 145 S145 :=
  have H := k145 h h110
  fun_at (fn := Tryz.f145) (fr := [(26, fragOrc s145_26 t145_26 l145_26)]) H (by kernel_rfl) (by kernel_rfl) (by kernel_rfl) (by kernel_rfl) (by kernel_rfl) ⟨q145_26 H, trivial⟩ (fun y => ⟨_, rfl, rfl⟩) e145
end Go.Proofs

set_option maxRecDepth 100000
set_option linter.unusedVariables false
namespace Go.Proofs
open Go.Jk
-- 113 loop.example/jackstay/spec.l2Entry
noncomputable def c113 : Ctx := { tt := tt, fs := fun n => match n with | 110 => some S110 | 144 => some S144 | 145 => some S145 | _ => none }
theorem k113 (h : ∀ T, (tt T).ok Tryz.prog T) (h110 : SummOk Tryz.prog 110 S110) (h144 : SummOk Tryz.prog 144 S144) (h145 : SummOk Tryz.prog 145 S145) : CtxGood Tryz.prog c113 := ⟨⟨h⟩, fun g S hg => (by
  simp only [c113] at hg
  split at hg
  · cases hg; exact h110
  · cases hg; exact h144
  · cases hg; exact h145
  · cases hg), tt_mo, fun _ _ h => (by cases h)⟩
noncomputable def b113 : Code := codeOf Tryz.f113
@[reducible] noncomputable def i113 : Shape := ⟨[(0, .agg [.d (.str), .d (.int .i64), .d (.int .i64), .d (.str)])], [], 42⟩
@[reducible] noncomputable def o113 : Shape := ⟨[(2, .lf (.d (.bool)))], [], 42⟩
noncomputable def f113 (a : i113.Y) : Option o113.Y :=
(f144 ((a.1.1.1, ()), ())).bind fun r382 =>
  bif (!r382.1.1) then
  some ((false, ()), ())
else
  bif (a.1.1.2.1 == (1 : Int)) then
(f110 ((a.1.1.2.2.1, ((0 : Int), ((7 : Int), ()))), ())).bind fun r386 =>
  bif r386.1.1 then
  some (((a.1.1.2.2.2.1 == ([] : Str)), ()), ())
else
  some ((false, ()), ())
else
  bif (a.1.1.2.1 == (2 : Int)) then
(f110 ((a.1.1.2.2.1, ((0 : Int), ((7 : Int), ()))), ())).bind fun r387 =>
  bif r387.1.1 then
(f145 ((a.1.1.2.2.2.1, ()), ())).bind fun r388 =>
  some ((r388.1.1, ()), ())
else
  some ((false, ()), ())
else
  bif (a.1.1.2.1 == (3 : Int)) then
  bif (a.1.1.2.2.1 == (0 : Int)) then
(f144 ((a.1.1.2.2.2.1, ()), ())).bind fun r389 =>
  some ((r389.1.1, ()), ())
else
  some ((false, ()), ())
else
  some ((false, ()), ())
theorem e113 : ∀ a, f113 a = bodyF (ctxWith c113 []) b113 i113 o113 a := fun a => by kernel_rfl
noncomputable def S113 : Summ := funSumm tt 42 i113 o113 [.tmp 2] f113
theorem z113 (h : ∀ T, (tt T).ok Tryz.prog T) (h110 : SummOk Tryz.prog 110 S110) (h144 : SummOk Tryz.prog 144 S144) (h145 : SummOk Tryz.prog 145 S145) : SummOk Tryz.prog 113 S113 :=
  have H := k113 h h110 h144 h145
  fun_at (fn := Tryz.f113) (fr := []) H (by kernel_rfl) (by kernel_rfl) (by kernel_rfl) (by kernel_rfl) (by kernel_rfl) frags_nil (fun y => ⟨_, rfl, rfl⟩) e113
end Go.Proofs

set_option maxRecDepth 100000
set_option linter.unusedVariables false
namespace Go.Proofs
open Go.Jk
-- 169 loop.example/jackstay/impl.nameByte
noncomputable def c169 : Ctx := { tt := tt, fs := fun n => match n with | _ => none }
theorem k169 (h : ∀ T, (tt T).ok Tryz.prog T) : CtxGood Tryz.prog c169 := ⟨⟨h⟩, fun g S hg => (by cases hg), tt_mo, fun _ _ h => (by cases h)⟩
noncomputable def b169 : Code := codeOf Tryz.f169
@[reducible] noncomputable def i169 : Shape := ⟨[(0, .lf (.d (.int .u8)))], [], 29⟩
@[reducible] noncomputable def o169 : Shape := ⟨[(2, .lf (.d (.bool)))], [], 29⟩
noncomputable def f169 (a : i169.Y) : Option o169.Y :=
  bif (decide (a.1.1 ≥ (97 : Int))) then
  bif (!(decide (a.1.1 ≤ (122 : Int)))) then
  bif (decide (a.1.1 ≥ (48 : Int))) then
  bif (!(decide (a.1.1 ≤ (57 : Int)))) then
  bif (!(a.1.1 == (46 : Int))) then
  bif (!(a.1.1 == (95 : Int))) then
  some (((a.1.1 == (45 : Int)), ()), ())
else
  some ((true, ()), ())
else
  some ((true, ()), ())
else
  some ((true, ()), ())
else
  bif (!(a.1.1 == (46 : Int))) then
  bif (!(a.1.1 == (95 : Int))) then
  some (((a.1.1 == (45 : Int)), ()), ())
else
  some ((true, ()), ())
else
  some ((true, ()), ())
else
  some ((true, ()), ())
else
  bif (decide (a.1.1 ≥ (48 : Int))) then
  bif (!(decide (a.1.1 ≤ (57 : Int)))) then
  bif (!(a.1.1 == (46 : Int))) then
  bif (!(a.1.1 == (95 : Int))) then
  some (((a.1.1 == (45 : Int)), ()), ())
else
  some ((true, ()), ())
else
  some ((true, ()), ())
else
  some ((true, ()), ())
else
  bif (!(a.1.1 == (46 : Int))) then
  bif (!(a.1.1 == (95 : Int))) then
  some (((a.1.1 == (45 : Int)), ()), ())
else
  some ((true, ()), ())
else
  some ((true, ()), ())
theorem e169 : ∀ a, f169 a = bodyF (ctxWith c169 []) b169 i169 o169 a := fun a => by kernel_rfl
noncomputable def S169 : Summ := funSumm tt 29 i169 o169 [.tmp 2] f169
theorem z169 (h : ∀ T, (tt T).ok Tryz.prog T) : SummOk Tryz.prog 169 S169 :=
  have H := k169 h
  fun_at (fn := Tryz.f169) (fr := []) H (by kernel_rfl) (by kernel_rfl) (by kernel_rfl) (by kernel_rfl) (by kernel_rfl) frags_nil (fun y => ⟨_, rfl, rfl⟩) e169
end Go.Proofs

set_option maxRecDepth 100000
set_option linter.unusedVariables false
namespace Go.Proofs
open Go.Jk
-- 159 loop.example/jackstay/impl.nameBytes
noncomputable def c159 : Ctx := { tt := tt, fs := fun n => match n with | 169 => some S169 | _ => none }
theorem k159 (h : ∀ T, (tt T).ok Tryz.prog T) (h169 : SummOk Tryz.prog 169 S169) : CtxGood Tryz.prog c159 := ⟨⟨h⟩, fun g S hg => (by
  simp only [c159] at hg
  split at hg
  · cases hg; exact h169
  · cases hg), tt_mo, fun _ _ h => (by cases h)⟩
noncomputable def b159 : Code := codeOf Tryz.f159
@[reducible] noncomputable def s159_26 : Shape := ⟨[(0, .lf (.d (.str))), (5, .lf (.d (.int .i64))), (6, .lf (.d (.int .i64)))], [], 17⟩
@[reducible] noncomputable def t159_26 : List OSh := [(.ret, ⟨[(2, .lf (.d (.bool)))], [], 17⟩), (.exit 0, ⟨[(0, .lf (.d (.str)))], [], 17⟩)]
noncomputable def g159_26 (y : s159_26.Y) : Option (Sum s159_26.Y (YS t159_26)) :=
  bif (decide (y.1.2.2.1 < y.1.2.1)) then
(ix y.1.1 y.1.2.2.1).bind fun x872 =>
(f169 (((x872.toNat : Int), ()), ())).bind fun r873 =>
  bif (!r873.1.1) then
  some (.inr (.inl ((false, ()), ())))
else
  some (.inl ((y.1.1, (y.1.2.1, ((IntKind.i64.wrap (y.1.2.2.1 + (1 : Int))), ()))), ()))
else
  some (.inr (.inr ((y.1.1, ()), ())))
theorem r159_26 : ∀ y, g159_26 y = roundF (ctxWith c159 []) (unloop (codeAt b159 1 26)) 26 s159_26 t159_26 y := fun y => by kernel_rfl
noncomputable def l159_26 : s159_26.Y → Option (YS t159_26) := loopF g159_26
theorem q159_26 (H : CtxGood Tryz.prog c159) : FragOk Tryz.prog (codeAt b159 1 26) (fragOrc s159_26 t159_26 l159_26) :=
  loop_at (fr := []) H (by kernel_rfl) (by kernel_rfl) frags_nil (fun y => iter_congr r159_26 y)
@[reducible] noncomputable def i159 : Shape := ⟨[(0, .lf (.d (.str)))], [], 17⟩
@[reducible] noncomputable def o159 : Shape := ⟨[(2, .lf (.d (.bool)))], [], 17⟩
noncomputable def f159 (a : i159.Y) : Option o159.Y :=
(l159_26 ((a.1.1, ((a.1.1.length : Int), ((0 : Int), ()))), ())).bind fun r883 =>
(match r883 with
| .inl r884 =>
  some ((r884.1.1, ()), ())
| .inr r885 =>
  some (((!(r885.1.1 == ([] : Str))), ()), ()))
theorem e159 : ∀ a, f159 a = bodyF (ctxWith c159 [(26, fragOrc s159_26 t159_26 l159_26)]) b159 i159 o159 a := fun a => by kernel_rfl
noncomputable def S159 : Summ := funSumm tt 17 i159 o159 [.tmp 2] f159
theorem z159 (h : ∀ T, (tt T).ok Tryz.prog T) (h169 : SummOk Tryz.prog 169 S169) : SummOk Tryz.prog 159 S159 :=
  have H := k159 h h169
  fun_at (fn := Tryz.f159) (fr := [(26, fragOrc s159_26 t159_26 l159_26)]) H (by kernel_rfl) (by kernel_rfl) (by kernel_rfl) (by kernel_rfl) (by kernel_rfl) ⟨q159_26 H, trivial⟩ (fun y => ⟨_, rfl, rfl⟩) e159
end Go.Proofs

set_option maxRecDepth 100000
set_option linter.unusedVariables false
namespace Go.Proofs
open Go.Jk
-- 146 loop.example/jackstay/impl.nameOk
noncomputable def c146 : Ctx := { tt := tt, fs := fun n => match n with | 159 => some S159 | _ => none }
theorem k146 (h : ∀ T, (tt T).ok Tryz.prog T) (h159 : SummOk Tryz.prog 159 S159) : CtxGood Tryz.prog c146 := ⟨⟨h⟩, fun g S hg => (by
  simp only [c146] at hg
  split at hg
  · cases hg; exact h159
  · cases hg), tt_mo, fun _ _ h => (by cases h)⟩
noncomputable def b146 : Code := codeOf Tryz.f146
@[reducible] noncomputable def i146 : Shape := ⟨[(0, .lf (.d (.str)))], [], 18⟩
@[reducible] noncomputable def o146 : Shape := ⟨[(2, .lf (.d (.bool)))], [], 18⟩
noncomputable def f146 (a : i146.Y) : Option o146.Y :=
  bif (decide ((a.1.1.length : Int) ≤ (10 : Int))) then
  bif (!(a.1.1 == ([46] : Str))) then
  bif (!(a.1.1 == ([46, 46] : Str))) then
(f159 ((a.1.1, ()), ())).bind fun r887 =>
  some ((r887.1.1, ()), ())
else
  some ((false, ()), ())
else
  some ((false, ()), ())
else
  some ((false, ()), ())
theorem e146 : ∀ a, f146 a = bodyF (ctxWith c146 []) b146 i146 o146 a := fun a => by kernel_rfl
noncomputable def S146 : Summ := funSumm tt 18 i146 o146 [.tmp 2] f146
theorem z146 (h : ∀ T, (tt T).ok Tryz.prog T) (h159 : SummOk Tryz.prog 159 S159) : SummOk Tryz.prog 146 S146 :=
  have H := k146 h h159
  fun_at (fn := Tryz.f146) (fr := []) H (by kernel_rfl) (by kernel_rfl) (by kernel_rfl) (by kernel_rfl) (by kernel_rfl) frags_nil (fun y => ⟨_, rfl, rfl⟩) e146
end Go.Proofs

set_option maxRecDepth 100000
set_option linter.unusedVariables false
namespace Go.Proofs
open Go.Jk
-- 123 loop.example/jackstay/impl.PathOk
noncomputable def c123 : Ctx := { tt := tt, fs := fun n => match n with | 146 => some S146 | _ => none, sp := fun n => match n with | 137 => some 164 | _ => none }
theorem k123 (h : ∀ T, (tt T).ok Tryz.prog T) (h146 : SummOk Tryz.prog 146 S146) (hY : SplitOk Tryz.prog 137 164) (hI : IterOk Tryz.prog 164) : CtxGood Tryz.prog c123 := ⟨⟨h⟩, fun g S hg => (by
  simp only [c123] at hg
  split at hg
  · cases hg; exact h146
  · cases hg), tt_mo, fun g g2 hg => (by
  simp only [c123] at hg
  split at hg
  · cases hg; exact hY
  · cases hg)⟩
noncomputable def b123 : Code := codeOf Tryz.f123
@[reducible] noncomputable def s123_938 : Shape := ⟨[(2, .lf (.ptr 2 0)), (3, .lf (.ptr 3 0)), (4, .lf (.d (.str)))], [(2, .box [.d (.bool)], .same), (3, .box [.d (.int .i64)], .same)], 17⟩
@[reducible] noncomputable def t123_938 : List OSh := [(.norm, ⟨[(2, .lf (.ptr 2 0)), (3, .lf (.ptr 3 0)), (16, .lf (.d (.bool)))], [(2, .box [.d (.bool)], .same), (3, .box [.d (.int .i64)], .same)], 17⟩)]
noncomputable def g123_938 (y : s123_938.Y) : Option (YS t123_938) :=
  bif (!(decide (y.2.2.1.1 > (5 : Int)))) then
(f146 ((y.1.2.2.1, ()), ())).bind fun r890 =>
  some ((((), ((), ((!r890.1.1), ()))), ((y.2.1.1, ()), ((y.2.2.1.1, ()), ()))))
else
  some ((((), ((), (true, ()))), ((y.2.1.1, ()), ((y.2.2.1.1, ()), ()))))
theorem r123_938 : ∀ y, g123_938 y = pieceF (ctxWith c123 []) (codeAt (rfBody (codeAt b123 1 58)) 117 938) 938 s123_938 t123_938 y := fun y => by kernel_rfl
theorem q123_938 (H : CtxGood Tryz.prog c123) (hI : IterOk Tryz.prog 164) : FragOk Tryz.prog (codeAt (rfBody (codeAt b123 1 58)) 117 938) (fragOrc s123_938 t123_938 g123_938) :=
  piece_at (fr := []) H (by kernel_rfl) frags_nil r123_938
@[reducible] noncomputable def s123_58 : Shape := ⟨[(2, .lf (.ptr 2 0)), (3, .lf (.ptr 3 0))], [(2, .box [.d (.bool)], .same), (3, .box [.d (.int .i64)], .same)], 17⟩
@[reducible] noncomputable def t123_58 : List OSh := [(.norm, ⟨[(2, .lf (.ptr 2 0))], [(2, .box [.d (.bool)], .same)], 17⟩), (.ret, ⟨[(2, .lf (.ptr 2 0))], [(2, .box [.d (.bool)], .same)], 17⟩)]
noncomputable def g123_58 (x : Str) (y : s123_58.Y) : Option (Sum s123_58.Y (YS t123_58)) :=
(g123_938 (((), ((), (x, ()))), ((y.2.1.1, ()), (((IntKind.i64.wrap (y.2.2.1.1 + (1 : Int))), ()), ())))).bind fun r892 =>
  bif r892.1.2.2.1 then
  some (.inr (.inr (((), ()), ((false, ()), ()))))
else
  some (.inl (((), ((), ())), ((r892.2.1.1, ()), ((r892.2.2.1.1, ()), ()))))
noncomputable def h123_58 (y : s123_58.Y) : Option (YS t123_58) := some (.inl (((), ()), ((y.2.1.1, ()), ())))
theorem r123_58 : ∀ x y, g123_58 x y = roundP (ctxWith c123 [(938, fragOrc s123_938 t123_938 g123_938)]) (rfAssign (codeAt b123 1 58)) (rfBody (codeAt b123 1 58)) 58 7 s123_58 t123_58 x y := fun x y => by kernel_rfl
theorem q123_58 (H : CtxGood Tryz.prog c123) (hI : IterOk Tryz.prog 164) : FragOk Tryz.prog (codeAt b123 1 58) (rangeOrc 164 6 s123_58 t123_58 g123_58 h123_58) :=
  range_at (fr := [(938, fragOrc s123_938 t123_938 g123_938)]) (prm := 7) H hI (by kernel_rfl) (by kernel_rfl) (by kernel_rfl) ⟨q123_938 H hI, trivial⟩ r123_58 (fun y => by kernel_rfl) (by kernel_rfl) (by kernel_rfl) (by kernel_rfl) (by kernel_rfl) (by kernel_rfl)
@[reducible] noncomputable def i123 : Shape := ⟨[(0, .lf (.d (.str)))], [], 17⟩
@[reducible] noncomputable def o123 : Shape := ⟨[(2, .lf (.ptr 2 0))], [(2, .box [.d (.bool)], .same)], 17⟩
noncomputable def f123 (a : i123.Y) : Option o123.Y :=
(bif Nat.ble a.1.1.length bigLen then foldP g123_58 h123_58 (splitL (47 : UInt8) a.1.1) (((), ((), ())), ((false, ()), (((0 : Int), ()), ()))) else none).bind fun r896 =>
(match r896 with
| .inl r897 =>
  some (((), ()), ((true, ()), ()))
| .inr r898 =>
  some (((), ()), ((r898.2.1.1, ()), ())))
theorem e123 : ∀ a, f123 a = bodyF (ctxWith c123 [(58, rangeOrc 164 6 s123_58 t123_58 g123_58 h123_58)]) b123 i123 o123 a := fun a => by kernel_rfl
noncomputable def S123 : Summ := funSumm tt 17 i123 o123 [.cell 2 4] f123
theorem z123 (h : ∀ T, (tt T).ok Tryz.prog T) (h146 : SummOk Tryz.prog 146 S146) (hY : SplitOk Tryz.prog 137 164) (hI : IterOk Tryz.prog 164) : SummOk Tryz.prog 123 S123 :=
  have H := k123 h h146 hY hI
  fun_at (fn := Tryz.f123) (fr := [(58, rangeOrc 164 6 s123_58 t123_58 g123_58 h123_58)]) H (by kernel_rfl) (by kernel_rfl) (by kernel_rfl) (by kernel_rfl) (by kernel_rfl) ⟨q123_58 H hI, trivial⟩ (fun y => ⟨_, rfl, rfl⟩) e123
end Go.Proofs

set_option maxRecDepth 100000
set_option linter.unusedVariables false
namespace Go.Proofs
open Go.Jk
-- 147 loop.example/jackstay/impl.plainByte
noncomputable def c147 : Ctx := { tt := tt, fs := fun n => match n with | _ => none }
theorem k147 (h : ∀ T, (tt T).ok Tryz.prog T) : CtxGood Tryz.prog c147 := ⟨⟨h⟩, fun g S hg => (by cases hg), tt_mo, fun _ _ h => (by cases h)⟩
noncomputable def b147 : Code := codeOf Tryz.f147
@[reducible] noncomputable def i147 : Shape := ⟨[(0, .lf (.d (.int .u8)))], [], 9⟩
@[reducible] noncomputable def o147 : Shape := ⟨[(2, .lf (.d (.bool)))], [], 9⟩
noncomputable def f147 (a : i147.Y) : Option o147.Y :=
  bif (decide (a.1.1 ≥ (32 : Int))) then
  some (((decide (a.1.1 ≤ (126 : Int))), ()), ())
else
  some ((false, ()), ())
theorem e147 : ∀ a, f147 a = bodyF (ctxWith c147 []) b147 i147 o147 a := fun a => by kernel_rfl
noncomputable def S147 : Summ := funSumm tt 9 i147 o147 [.tmp 2] f147
theorem z147 (h : ∀ T, (tt T).ok Tryz.prog T) : SummOk Tryz.prog 147 S147 :=
  have H := k147 h
  fun_at (fn := Tryz.f147) (fr := []) H (by kernel_rfl) (by kernel_rfl) (by kernel_rfl) (by kernel_rfl) (by kernel_rfl) frags_nil (fun y => ⟨_, rfl, rfl⟩) e147
end Go.Proofs

set_option maxRecDepth 100000
set_option linter.unusedVariables false
namespace Go.Proofs
open Go.Jk
-- 124 loop.example/jackstay/impl.fileText
noncomputable def c124 : Ctx := { tt := tt, fs := fun n => match n with | 147 => some S147 | _ => none }
theorem k124 (h : ∀ T, (tt T).ok Tryz.prog T) (h147 : SummOk Tryz.prog 147 S147) : CtxGood Tryz.prog c124 := ⟨⟨h⟩, fun g S hg => (by
  simp only [c124] at hg
  split at hg
  · cases hg; exact h147
  · cases hg), tt_mo, fun _ _ h => (by cases h)⟩
noncomputable def b124 : Code := codeOf Tryz.f124
@[reducible] noncomputable def s124_7474 : Shape := ⟨[(0, .lf (.d (.str))), (3, .lf (.d (.int .i64))), (8, .lf (.d (.int .i64))), (9, .lf (.d (.int .i64)))], [], 24⟩
@[reducible] noncomputable def t124_7474 : List OSh := [(.norm, ⟨[(0, .lf (.d (.str))), (8, .lf (.d (.int .i64))), (9, .lf (.d (.int .i64))), (22, .lf (.d (.bool)))], [], 24⟩)]
noncomputable def g124_7474 (y : s124_7474.Y) : Option (YS t124_7474) :=
(ix y.1.1 y.1.2.1).bind fun x910 =>
(f147 (((x910.toNat : Int), ()), ())).bind fun r911 =>
  bif (!r911.1.1) then
(ix y.1.1 y.1.2.1).bind fun x912 =>
  some (((y.1.1, (y.1.2.2.1, (y.1.2.2.2.1, (((x912.toNat : Int) != (10 : Int)), ())))), ()))
else
  some (((y.1.1, (y.1.2.2.1, (y.1.2.2.2.1, (false, ())))), ()))
theorem r124_7474 : ∀ y, g124_7474 y = pieceF (ctxWith c124 []) (codeAt (unloop (codeAt b124 1 58)) 116 7474) 7474 s124_7474 t124_7474 y := fun y => by kernel_rfl
theorem q124_7474 (H : CtxGood Tryz.prog c124) : FragOk Tryz.prog (codeAt (unloop (codeAt b124 1 58)) 116 7474) (fragOrc s124_7474 t124_7474 g124_7474) :=
  piece_at (fr := []) H (by kernel_rfl) frags_nil r124_7474
@[reducible] noncomputable def s124_58 : Shape := ⟨[(0, .lf (.d (.str))), (8, .lf (.d (.int .i64))), (9, .lf (.d (.int .i64)))], [], 24⟩
@[reducible] noncomputable def t124_58 : List OSh := [(.ret, ⟨[(2, .lf (.d (.bool)))], [], 24⟩), (.exit 0, ⟨[], [], 24⟩)]
noncomputable def g124_58 (y : s124_58.Y) : Option (Sum s124_58.Y (YS t124_58)) :=
  bif (decide (y.1.2.2.1 < y.1.2.1)) then
(g124_7474 ((y.1.1, (y.1.2.2.1, (y.1.2.1, (y.1.2.2.1, ())))), ())).bind fun r914 =>
  bif r914.1.2.2.2.1 then
  some (.inr (.inl ((false, ()), ())))
else
  some (.inl ((r914.1.1, (r914.1.2.1, ((IntKind.i64.wrap (r914.1.2.2.1 + (1 : Int))), ()))), ()))
else
  some (.inr (.inr ((), ())))
theorem r124_58 : ∀ y, g124_58 y = roundF (ctxWith c124 [(7474, fragOrc s124_7474 t124_7474 g124_7474)]) (unloop (codeAt b124 1 58)) 58 s124_58 t124_58 y := fun y => by kernel_rfl
noncomputable def l124_58 : s124_58.Y → Option (YS t124_58) := loopF g124_58
theorem q124_58 (H : CtxGood Tryz.prog c124) : FragOk Tryz.prog (codeAt b124 1 58) (fragOrc s124_58 t124_58 l124_58) :=
  loop_at (fr := [(7474, fragOrc s124_7474 t124_7474 g124_7474)]) H (by kernel_rfl) (by kernel_rfl) ⟨q124_7474 H, trivial⟩ (fun y => iter_congr r124_58 y)
@[reducible] noncomputable def i124 : Shape := ⟨[(0, .lf (.d (.str)))], [], 24⟩
@[reducible] noncomputable def o124 : Shape := ⟨[(2, .lf (.d (.bool)))], [], 24⟩
noncomputable def f124 (a : i124.Y) : Option o124.Y :=
  bif (decide ((a.1.1.length : Int) > (80 : Int))) then
  some ((false, ()), ())
else
(l124_58 ((a.1.1, ((a.1.1.length : Int), ((0 : Int), ()))), ())).bind fun r915 =>
(match r915 with
| .inl r916 =>
  some ((r916.1.1, ()), ())
| .inr r917 =>
  some ((true, ()), ()))
theorem e124 : ∀ a, f124 a = bodyF (ctxWith c124 [(58, fragOrc s124_58 t124_58 l124_58)]) b124 i124 o124 a := fun a => by kernel_rfl
noncomputable def S124 : Summ := funSumm tt 24 i124 o124 [.tmp 2] f124
theorem z124 (h : ∀ T, (tt T).ok Tryz.prog T) (h147 : SummOk Tryz.prog 147 S147) : SummOk Tryz.prog 124 S124 :=
  have H := k124 h h147
  fun_at (fn := Tryz.f124) (fr := [(58, fragOrc s124_58 t124_58 l124_58)]) H (by kernel_rfl) (by kernel_rfl) (by kernel_rfl) (by kernel_rfl) (by kernel_rfl) ⟨q124_58 H, trivial⟩ (fun y => ⟨_, rfl, rfl⟩) e124
end Go.Proofs

set_option maxRecDepth 100000
set_option linter.unusedVariables false
namespace Go.Proofs
open Go.Jk
-- 96 loop.example/jackstay/impl.entryOk
noncomputable def c96 : Ctx := { tt := tt, fs := fun n => match n with | 123 => some S123 | 124 => some S124 | _ => none }
theorem k96 (h : ∀ T, (tt T).ok Tryz.prog T) (h123 : SummOk Tryz.prog 123 S123) (h124 : SummOk Tryz.prog 124 S124) : CtxGood Tryz.prog c96 := ⟨⟨h⟩, fun g S hg => (by
  simp only [c96] at hg
  split at hg
  · cases hg; exact h123
  · cases hg; exact h124
  · cases hg), tt_mo, fun _ _ h => (by cases h)⟩
noncomputable def b96 : Code := codeOf Tryz.f96
@[reducible] noncomputable def s96_12 : Shape := ⟨[(1, .lf (.ptr 1 0))], [(1, .box [.d (.str), .d (.int .i64), .d (.int .i64), .d (.str)], .same)], 39⟩
@[reducible] noncomputable def t96_12 : List OSh := [(.norm, ⟨[(1, .lf (.ptr 1 0)), (16, .lf (.d (.bool)))], [(1, .box [.d (.str), .d (.int .i64), .d (.int .i64), .d (.str)], .same)], 39⟩)]
noncomputable def g96_12 (y : s96_12.Y) : Option (YS t96_12) :=
(f123 ((y.2.1.1, ()), ())).bind fun r901 =>
  bif (!(!r901.2.1.1)) then
  bif (!(decide (y.2.1.2.2.1 < (0 : Int)))) then
  some ((((), ((decide (y.2.1.2.2.1 > (7 : Int))), ())), ((y.2.1.1, (y.2.1.2.1, (y.2.1.2.2.1, (y.2.1.2.2.2.1, ())))), ())))
else
  some ((((), (true, ())), ((y.2.1.1, (y.2.1.2.1, (y.2.1.2.2.1, (y.2.1.2.2.2.1, ())))), ())))
else
  some ((((), (true, ())), ((y.2.1.1, (y.2.1.2.1, (y.2.1.2.2.1, (y.2.1.2.2.2.1, ())))), ())))
theorem r96_12 : ∀ y, g96_12 y = pieceF (ctxWith c96 []) (codeAt b96 1 12) 12 s96_12 t96_12 y := fun y => by kernel_rfl
theorem q96_12 (H : CtxGood Tryz.prog c96) : FragOk Tryz.prog (codeAt b96 1 12) (fragOrc s96_12 t96_12 g96_12) :=
  piece_at (fr := []) H (by kernel_rfl) frags_nil r96_12
@[reducible] noncomputable def i96 : Shape := ⟨[(0, .agg [.d (.str), .d (.int .i64), .d (.int .i64), .d (.str)])], [], 39⟩
@[reducible] noncomputable def o96 : Shape := ⟨[(2, .lf (.d (.bool)))], [], 39⟩
noncomputable def f96 (a : i96.Y) : Option o96.Y :=
(g96_12 (((), ()), ((a.1.1.1, (a.1.1.2.1, (a.1.1.2.2.1, (a.1.1.2.2.2.1, ())))), ()))).bind fun r921 =>
  bif r921.1.2.1 then
  some ((false, ()), ())
else
  bif (r921.2.1.2.1 == (1 : Int)) then
  some (((r921.2.1.2.2.2.1 == ([] : Str)), ()), ())
else
  bif (r921.2.1.2.1 == (2 : Int)) then
(f124 ((r921.2.1.2.2.2.1, ()), ())).bind fun r922 =>
  some ((r922.1.1, ()), ())
else
  bif (r921.2.1.2.1 == (3 : Int)) then
  bif (r921.2.1.2.2.1 == (0 : Int)) then
(f123 ((r921.2.1.2.2.2.1, ()), ())).bind fun r923 =>
  some ((r923.2.1.1, ()), ())
else
  some ((false, ()), ())
else
  some ((false, ()), ())
theorem e96 : ∀ a, f96 a = bodyF (ctxWith c96 [(12, fragOrc s96_12 t96_12 g96_12)]) b96 i96 o96 a := fun a => by kernel_rfl
noncomputable def S96 : Summ := funSumm tt 39 i96 o96 [.tmp 2] f96
theorem z96 (h : ∀ T, (tt T).ok Tryz.prog T) (h123 : SummOk Tryz.prog 123 S123) (h124 : SummOk Tryz.prog 124 S124) : SummOk Tryz.prog 96 S96 :=
  have H := k96 h h123 h124
  fun_at (fn := Tryz.f96) (fr := [(12, fragOrc s96_12 t96_12 g96_12)]) H (by kernel_rfl) (by kernel_rfl) (by kernel_rfl) (by kernel_rfl) (by kernel_rfl) ⟨q96_12 H, trivial⟩ (fun y => ⟨_, rfl, rfl⟩) e96
end Go.Proofs

set_option maxRecDepth 100000
set_option linter.unusedVariables false
set_option linter.unusedSimpArgs false
namespace Go.Proofs
open Go.Jk

/- Names of paths. -/
def smallI (n : Int) : Bool := (decide (97 ≤ n) && decide (n ≤ 122)) || (decide (48 ≤ n) && decide (n ≤ 57)) || n == 46 || n == 95 || n == 45
theorem v_l1Small (a) : f168 a = some ((smallI a.1.1, ()), ()) := by
  obtain ⟨⟨n, u⟩, u'⟩ := a
  simp only [f168, smallI, ge_iff_le]
  generalize decide ((97 : Int) ≤ n) = b1
  generalize decide (n ≤ (122 : Int)) = b2
  generalize decide ((48 : Int) ≤ n) = b3
  generalize decide (n ≤ (57 : Int)) = b4
  generalize (n == (46 : Int)) = b5
  generalize (n == (95 : Int)) = b6
  generalize (n == (45 : Int)) = b7
  cases b1 <;> cases b2 <;> cases b3 <;> cases b4 <;> cases b5 <;> cases b6 <;> cases b7 <;> rfl
theorem v_nameByte (a) : f169 a = some ((smallI a.1.1, ()), ()) := by
  obtain ⟨⟨n, u⟩, u'⟩ := a
  simp only [f169, smallI, ge_iff_le]
  generalize decide ((97 : Int) ≤ n) = b1
  generalize decide (n ≤ (122 : Int)) = b2
  generalize decide ((48 : Int) ≤ n) = b3
  generalize decide (n ≤ (57 : Int)) = b4
  generalize (n == (46 : Int)) = b5
  generalize (n == (95 : Int)) = b6
  generalize (n == (45 : Int)) = b7
  cases b1 <;> cases b2 <;> cases b3 <;> cases b4 <;> cases b5 <;> cases b6 <;> cases b7 <;> rfl

def nmOk (s : Str) : Bool := s.all (fun b => smallI b.toNat) && within s.length 1 10 && !(s == [46]) && !(s == [46, 46])

theorem v_l1Name (a) (hs : Bd a.1.1.length) : f158 a = some ((nmOk a.1.1, ()), ()) := by
  obtain ⟨⟨s, u⟩, u'⟩ := a
  have hs : s.length ≤ 2097152 := hs
  have key : l158_26 ((s, ((0 : Int), ())), ()) = some (bif allI (fun _ b => smallI b.toNat) 0 s then .inr ((s, ()), ()) else .inl ((false, ()), ())) := by
    refine loop_all g158_26 s (fun i => ((s, ((i : Int), ())), ())) _ _ _ (fun i x hx => ?_) ?_
    · have hi := get_lt hx
      have hw : Sm i := by unfold Sm; omega
      simp only [g158_26, lt_dec hi, cond_true, ix_nat, hx, Option.bind_some, v_l1Small, wrap_add1 hw]
      cases smallI x.toNat <;> rfl
    · simp only [g158_26, nlt_dec, cond_false]
  rw [allI_all] at key
  simp only [f158, key, Option.bind_some, nmOk]
  cases List.all s (fun b => smallI b.toNat) with
  | false => rfl
  | true =>
    simp only [cond_true, v_l1In, Option.bind_some, Bool.true_and]
    cases within (s.length : Int) 1 10 <;> cases (s == [46]) <;> rfl

theorem v_nameOk (a) (hs : Bd a.1.1.length) : f146 a = some ((nmOk a.1.1, ()), ()) := by
  obtain ⟨⟨s, u⟩, u'⟩ := a
  have hs : s.length ≤ 2097152 := hs
  have key : l159_26 ((s, ((s.length : Int), ((0 : Int), ()))), ()) = some (bif allI (fun _ b => smallI b.toNat) 0 s then .inr ((s, ()), ()) else .inl ((false, ()), ())) := by
    refine loop_all g159_26 s (fun i => ((s, ((s.length : Int), ((i : Int), ()))), ())) _ _ _ (fun i x hx => ?_) ?_
    · have hi := get_lt hx
      have hw : Sm i := by unfold Sm; omega
      simp only [g159_26, lt_dec hi, cond_true, ix_nat, hx, Option.bind_some, v_nameByte, wrap_add1 hw]
      cases smallI x.toNat <;> rfl
    · simp only [g159_26, nlt_dec, cond_false]
  rw [allI_all] at key
  have hnb : f159 ((s, ()), ()) = some ((List.all s (fun b => smallI b.toNat) && !(s == ([] : Str)), ()), ()) := by
    simp only [f159, key, Option.bind_some]
    cases List.all s (fun b => smallI b.toNat) <;> rfl
  have h1 : decide ((1 : Int) ≤ (s.length : Int)) = !(s == ([] : Str)) := by
    cases s with
    | nil => rfl
    | cons b r => simp only [List.length_cons]; have : ((b :: r) == ([] : Str)) = false := rfl
                  rw [this]; simp only [Bool.not_false, decide_eq_true_eq]; omega
  simp only [f146, hnb, Option.bind_some, nmOk, within, h1]
  cases decide ((s.length : Int) ≤ 10) <;> cases (s == [46]) <;> cases (s == [46, 46]) <;> cases List.all s (fun b => smallI b.toNat) <;> cases (s == ([] : Str)) <;> rfl

/- Paths. -/
def pathOk (s : Str) : Bool := (splitL 47 s).all nmOk && decide ((splitL 47 s).length ≤ 5)

theorem v_l1Path (a) (hs : Bd a.1.1.length) : f144 a = some ((pathOk a.1.1, ()), ()) := by
  obtain ⟨⟨s, u⟩, u'⟩ := a
  have hs : s.length ≤ 2097152 := hs
  have hlen := splitL_len 47 s
  have hcut : f141 ((s, ((47 : Int), ((IntKind.i64.wrap ((s.length : Int) + (1 : Int))), ()))), ()) = some (((), ()), (splitL 47 s, ())) :=
    v_l1Cut 47 _ hs rfl (wrap_add1 (by unfold Sm; omega))
  have key : l144_58 (((), ((0 : Int), ())), (splitL 47 s, ())) = some (bif allI (fun _ x => nmOk x) 0 (splitL 47 s) then .inr (((), ()), (splitL 47 s, ())) else .inl ((false, ()), ())) := by
    refine loop_all g144_58 (splitL 47 s) (fun i => (((), ((i : Int), ())), (splitL 47 s, ()))) _ _ _ (fun i x hx => ?_) ?_
    · have hi := get_lt hx
      have hw : Sm i := by unfold Sm; omega
      have hxl : x.length ≤ s.length := splitL_mem 47 s x (List.mem_of_getElem? hx)
      simp only [g144_58, lt_dec hi, cond_true, inb_nat hi, hx, Option.bind_some]
      rw [v_l1Name _ (show x.length ≤ 2097152 by omega)]
      simp only [Option.bind_some, wrap_add1 hw]
      cases nmOk x <;> rfl
    · simp only [g144_58, nlt_dec, cond_false]
  rw [allI_all] at key
  simp only [f144, hcut, Option.bind_some, key, pathOk]
  cases List.all (splitL 47 s) nmOk with
  | false => rfl
  | true => have := leb6 (splitL 47 s).length 5; simp only [cond_true, Bool.true_and]; rw [← this]; rfl

theorem v_PathOk (a) (hs : Bd a.1.1.length) : f123 a = some (((), ()), ((pathOk a.1.1, ()), ())) := by
  obtain ⟨⟨s, u⟩, u'⟩ := a
  have hs : s.length ≤ 2097152 := hs
  have hble : Nat.ble s.length bigLen = true := Nat.ble_eq_true_of_le (by unfold bigLen; omega)
  have fold : ∀ (r : List Str) (k : Nat), (∀ x, x ∈ r → x.length ≤ s.length) → k ≤ 5 →
      foldP g123_58 h123_58 r (((), ((), ())), ((false, ()), (((k : Int), ()), ()))) =
        some (bif r.all nmOk && decide (k + r.length ≤ 5) then (.inl (((), ()), ((false, ()), ()))) else (.inr (((), ()), ((false, ()), ())))) := by
    intro r
    induction r with
    | nil =>
      intro k _ hk
      have : decide (k + 0 ≤ 5) = true := by simpa using hk
      simp only [foldP, h123_58, List.all_nil, List.length_nil, this, Bool.and_self, cond_true]
    | cons x r ih =>
      intro k hr hk
      have hx := hr x List.mem_cons_self
      have hnm := v_nameOk ((x, ()), ()) (show x.length ≤ 2097152 by omega)
      have hw := wrap_add1 (i := k) (by unfold Sm; omega)
      have hk5 : decide (((k + 1 : Nat) : Int) > 5) = !decide (k + 1 ≤ 5) := by by_cases h : k + 1 ≤ 5 <;> simp only [h, decide_true, decide_false, Bool.not_true, Bool.not_false, decide_eq_true_eq, decide_eq_false_iff_not] <;> omega
      have step : g123_58 x (((), ((), ())), ((false, ()), (((k : Int), ()), ()))) =
          some (bif nmOk x && decide (k + 1 ≤ 5) then .inl (((), ((), ())), ((false, ()), ((((k + 1 : Nat) : Int), ()), ()))) else .inr (.inr (((), ()), ((false, ()), ())))) := by
        simp only [g123_58, g123_938, hw, hk5, Bool.not_not, hnm, Option.bind_some]
        cases decide (k + 1 ≤ 5) with
        | false => cases nmOk x <;> rfl
        | true => cases nmOk x <;> rfl
      rw [foldP, step, List.all_cons]
      cases hn : nmOk x with
      | false => rfl
      | true =>
        simp only [Bool.true_and]
        cases hq : decide (k + 1 ≤ 5) with
        | false =>
          have : decide (k + (x :: r).length ≤ 5) = false := by simp only [decide_eq_false_iff_not, List.length_cons] at hq ⊢; omega
          rw [this]; simp
        | true =>
          simp only [cond_true]
          rw [ih (k + 1) (fun y hy => hr y (List.mem_cons_of_mem _ hy)) (by simpa using hq)]
          have e1 : k + 1 + r.length = k + (x :: r).length := by simp only [List.length_cons]; omega
          rw [e1]
  have key := fold (splitL (47 : UInt8) s) 0 (fun x hx => splitL_mem 47 s x hx) (Nat.zero_le _)
  have key' : foldP g123_58 h123_58 (splitL (47 : UInt8) s) (((), ((), ())), ((false, ()), (((0 : Int), ()), ()))) = some (bif pathOk s then (.inl (((), ()), ((false, ()), ()))) else (.inr (((), ()), ((false, ()), ())))) := by
    refine key.trans ?_
    unfold pathOk
    rw [Nat.zero_add]
  simp only [f123, hble, cond_true, key', Option.bind_some]
  cases pathOk s <;> rfl

/- Texts. -/
def textOk (s : Str) : Bool := s.all (fun b => (b.toNat : Int) == 10 || within b.toNat 32 126) && decide (s.length ≤ 80)
theorem wrap_byte (b : UInt8) : IntKind.i64.wrap (b.toNat : Int) = (b.toNat : Int) := by
  have := b.toNat_lt
  rw [wrap_of (by omega) (by omega)]

theorem v_l2Text (a) (hs : Bd a.1.1.length) : f145 a = some ((textOk a.1.1, ()), ()) := by
  obtain ⟨⟨s, u⟩, u'⟩ := a
  have hs : s.length ≤ 2097152 := hs
  have key : l145_26 ((s, ((0 : Int), ())), ()) = some (bif allI (fun _ b => (b.toNat : Int) == 10 || within b.toNat 32 126) 0 s then .inr ((s, ()), ()) else .inl ((false, ()), ())) := by
    refine loop_all g145_26 s (fun i => ((s, ((i : Int), ())), ())) _ _ _ (fun i x hx => ?_) ?_
    · have hi := get_lt hx
      have hw : Sm i := by unfold Sm; omega
      have hne : ((x.toNat : Int) != 10) = !((x.toNat : Int) == 10) := rfl
      simp only [g145_26, lt_dec hi, cond_true, g145_840, ix_nat, hx, Option.bind_some, hne, v_l1In, wrap_byte]
      cases ((x.toNat : Int) == 10) <;> cases within (x.toNat : Int) 32 126 <;> simp only [Bool.not_true, Bool.not_false, cond_true, cond_false, Option.bind_some, wrap_add1 hw, Bool.or_true, Bool.true_or, Bool.or_false]
    · simp only [g145_26, nlt_dec, cond_false]
  rw [allI_all] at key
  simp only [f145, key, Option.bind_some, textOk]
  cases List.all s (fun b => (b.toNat : Int) == 10 || within b.toNat 32 126) with
  | false => rfl
  | true => have := leb6 s.length 80; simp only [cond_true, Bool.true_and]; rw [← this]; rfl

theorem v_plainByte (a) : f147 a = some ((within a.1.1 32 126, ()), ()) := by
  simp only [f147, within, ge_iff_le]
  cases decide ((32 : Int) ≤ a.1.1) <;> rfl

theorem v_fileText (a) (hs : Bd a.1.1.length) : f124 a = some ((textOk a.1.1, ()), ()) := by
  obtain ⟨⟨s, u⟩, u'⟩ := a
  have hs : s.length ≤ 2097152 := hs
  have key : l124_58 ((s, ((s.length : Int), ((0 : Int), ()))), ()) = some (bif allI (fun _ b => (b.toNat : Int) == 10 || within b.toNat 32 126) 0 s then .inr ((), ()) else .inl ((false, ()), ())) := by
    refine loop_all g124_58 s (fun i => ((s, ((s.length : Int), ((i : Int), ()))), ())) _ _ _ (fun i x hx => ?_) ?_
    · have hi := get_lt hx
      have hw : Sm i := by unfold Sm; omega
      have hne : ((x.toNat : Int) != 10) = !((x.toNat : Int) == 10) := rfl
      simp only [g124_58, lt_dec hi, cond_true, g124_7474, ix_nat, hx, Option.bind_some, hne, v_plainByte]
      cases ((x.toNat : Int) == 10) <;> cases within (x.toNat : Int) 32 126 <;> simp only [Bool.not_true, Bool.not_false, cond_true, cond_false, Option.bind_some, wrap_add1 hw, Bool.or_true, Bool.true_or, Bool.or_false]
    · simp only [g124_58, nlt_dec, cond_false]
  rw [allI_all] at key
  have h80 : decide ((s.length : Int) > 80) = !decide (s.length ≤ 80) := by by_cases h : s.length ≤ 80 <;> simp only [h, decide_true, decide_false, Bool.not_true, Bool.not_false, decide_eq_true_eq, decide_eq_false_iff_not] <;> omega
  simp only [f124, key, Option.bind_some, textOk, h80]
  cases decide (s.length ≤ 80) <;> cases List.all s (fun b => (b.toNat : Int) == 10 || within b.toNat 32 126) <;> rfl

/- Entries. -/
def entOk (e : Entry) : Bool := pathOk e.path && (bif e.kind == 1 then within e.mode 0 7 && e.text == [] else bif e.kind == 2 then within e.mode 0 7 && textOk e.text else bif e.kind == 3 then e.mode == 0 && pathOk e.text else false)
abbrev BdE (e : Entry) : Prop := Bd e.path.length ∧ Bd e.text.length

theorem v_l2Entry (a) (h1 : Bd a.1.1.1.length) (h2 : Bd a.1.1.2.2.2.1.length) : f113 a = some ((entOk ⟨a.1.1.1, a.1.1.2.1, a.1.1.2.2.1, a.1.1.2.2.2.1⟩, ()), ()) := by
  obtain ⟨⟨⟨p, k, m, t, u⟩, u'⟩, u''⟩ := a
  have e1 := v_l1Path ((p, ()), ()) h1
  have e2 := v_l1Path ((t, ()), ()) h2
  have e3 := v_l2Text ((t, ()), ()) h2
  simp only [f113, e1, e2, e3, v_l1In, Option.bind_some, entOk]
  cases pathOk p with
  | false => rfl
  | true => cases (k == 1) <;> cases (k == 2) <;> cases (k == 3) <;> cases within m 0 7 <;> cases (m == 0) <;> rfl

theorem v_entryOk (a) (h1 : Bd a.1.1.1.length) (h2 : Bd a.1.1.2.2.2.1.length) : f96 a = some ((entOk ⟨a.1.1.1, a.1.1.2.1, a.1.1.2.2.1, a.1.1.2.2.2.1⟩, ()), ()) := by
  obtain ⟨⟨⟨p, k, m, t, u⟩, u'⟩, u''⟩ := a
  have e1 := v_PathOk ((p, ()), ()) h1
  have e2 := v_PathOk ((t, ()), ()) h2
  have e3 := v_fileText ((t, ()), ()) h2
  have hm : within m 0 7 = true ∨ (m == 0) = false := by
    cases h : (m == 0) with
    | false => exact .inr rfl
    | true => left; rw [show m = (0 : Int) from eq_of_beq h]; rfl
  simp only [f96, g96_12, e1, e2, e3, Option.bind_some, entOk, dlt, dgt, Bool.not_not]
  unfold within at hm ⊢
  cases pathOk p with
  | false => rfl
  | true =>
    cases h0 : decide ((0 : Int) ≤ m) <;> cases h7 : decide (m ≤ 7) <;> rw [h0, h7] at hm <;> cases h00 : (m == 0) <;> rw [h00] at hm <;>
      first | (simp at hm; done) | (simp only [Bool.not_true, Bool.not_false, cond_true, cond_false, Option.bind_some, h00, e2, e3, Bool.and_true, Bool.and_false, Bool.true_and, Bool.false_and]; cases (k == 1) <;> cases (k == 2) <;> cases (k == 3) <;> rfl)
end Go.Proofs

set_option maxRecDepth 100000
set_option linter.unusedVariables false
namespace Go.Proofs
open Go.Jk
-- 40 loop.example/jackstay/spec.l2At
noncomputable def c40 : Ctx := { tt := tt, fs := fun n => match n with | _ => none }
theorem k40 (h : ∀ T, (tt T).ok Tryz.prog T) : CtxGood Tryz.prog c40 := ⟨⟨h⟩, fun g S hg => (by cases hg), tt_mo, fun _ _ h => (by cases h)⟩
noncomputable def b40 : Code := codeOf Tryz.f40
@[reducible] noncomputable def s40_28 : Shape := ⟨[(0, .lf (.d (.sl .entry))), (1, .lf (.d (.str))), (4, .lf (.d (.int .i64))), (5, .lf (.d (.bool))), (6, .lf (.d (.int .i64)))], [], 36⟩
@[reducible] noncomputable def t40_28 : List OSh := [(.exit 0, ⟨[(0, .lf (.d (.sl .entry))), (1, .lf (.d (.str))), (4, .lf (.d (.int .i64))), (5, .lf (.d (.bool))), (6, .lf (.d (.int .i64)))], [], 36⟩)]
noncomputable def g40_28 (y : s40_28.Y) : Option (Sum s40_28.Y (YS t40_28)) :=
  bif (decide (y.1.2.2.2.2.1 < (y.1.1.length : Int))) then
(ix y.1.1 y.1.2.2.2.2.1).bind fun x432 =>
  bif (Op.bytesLess x432.path y.1.2.1) then
  some (.inl ((y.1.1, (y.1.2.1, (y.1.2.2.1, (y.1.2.2.2.1, ((IntKind.i64.wrap (y.1.2.2.2.2.1 + (1 : Int))), ()))))), ()))
else
  some (.inr (((y.1.1, (y.1.2.1, (y.1.2.2.1, (y.1.2.2.2.1, (y.1.2.2.2.2.1, ()))))), ())))
else
  some (.inr (((y.1.1, (y.1.2.1, (y.1.2.2.1, (y.1.2.2.2.1, (y.1.2.2.2.2.1, ()))))), ())))
theorem r40_28 : ∀ y, g40_28 y = roundF (ctxWith c40 []) (unloop (codeAt b40 1 28)) 28 s40_28 t40_28 y := fun y => by kernel_rfl
noncomputable def l40_28 : s40_28.Y → Option (YS t40_28) := loopF g40_28
theorem q40_28 (H : CtxGood Tryz.prog c40) : FragOk Tryz.prog (codeAt b40 1 28) (fragOrc s40_28 t40_28 l40_28) :=
  loop_at (fr := []) H (by kernel_rfl) (by kernel_rfl) frags_nil (fun y => iter_congr r40_28 y)
@[reducible] noncomputable def i40 : Shape := ⟨[(0, .lf (.d (.sl .entry))), (1, .lf (.d (.str)))], [], 36⟩
@[reducible] noncomputable def o40 : Shape := ⟨[(4, .lf (.d (.int .i64))), (5, .lf (.d (.bool)))], [], 36⟩
noncomputable def f40 (a : i40.Y) : Option o40.Y :=
(l40_28 ((a.1.1, (a.1.2.1, ((0 : Int), (false, ((0 : Int), ()))))), ())).bind fun r435 =>
  bif (decide (r435.1.2.2.2.2.1 < (r435.1.1.length : Int))) then
(ix r435.1.1 r435.1.2.2.2.2.1).bind fun x436 =>
  some ((r435.1.2.2.2.2.1, ((x436.path == r435.1.2.1), ())), ())
else
  some ((r435.1.2.2.2.2.1, (false, ())), ())
theorem e40 : ∀ a, f40 a = bodyF (ctxWith c40 [(28, fragOrc s40_28 t40_28 l40_28)]) b40 i40 o40 a := fun a => by kernel_rfl
noncomputable def S40 : Summ := funSumm tt 36 i40 o40 [.tmp 4, .tmp 5] f40
theorem z40 (h : ∀ T, (tt T).ok Tryz.prog T) : SummOk Tryz.prog 40 S40 :=
  have H := k40 h
  fun_at (fn := Tryz.f40) (fr := [(28, fragOrc s40_28 t40_28 l40_28)]) H (by kernel_rfl) (by kernel_rfl) (by kernel_rfl) (by kernel_rfl) (by kernel_rfl) ⟨q40_28 H, trivial⟩ (fun y => ⟨_, rfl, rfl⟩) e40
end Go.Proofs

set_option maxRecDepth 100000
set_option linter.unusedVariables false
namespace Go.Proofs
open Go.Jk
-- 114 loop.example/jackstay/spec.l2Dir
noncomputable def c114 : Ctx := { tt := tt, fs := fun n => match n with | 40 => some S40 | _ => none }
theorem k114 (h : ∀ T, (tt T).ok Tryz.prog T) (h40 : SummOk Tryz.prog 40 S40) : CtxGood Tryz.prog c114 := ⟨⟨h⟩, fun g S hg => (by
  simp only [c114] at hg
  split at hg
  · cases hg; exact h40
  · cases hg), tt_mo, fun _ _ h => (by cases h)⟩
noncomputable def b114 : Code := codeOf Tryz.f114
@[reducible] noncomputable def i114 : Shape := ⟨[(0, .lf (.d (.sl .entry))), (1, .lf (.d (.str)))], [], 26⟩
@[reducible] noncomputable def o114 : Shape := ⟨[(4, .lf (.d (.bool)))], [], 26⟩
noncomputable def f114 (a : i114.Y) : Option o114.Y :=
(f40 ((a.1.1, (a.1.2.1, ())), ())).bind fun r441 =>
  bif (!(a.1.2.1 == ([] : Str))) then
  bif r441.1.2.1 then
(ix a.1.1 r441.1.1).bind fun x442 =>
  some (((x442.kind == (1 : Int)), ()), ())
else
  some ((false, ()), ())
else
  some ((true, ()), ())
theorem e114 : ∀ a, f114 a = bodyF (ctxWith c114 []) b114 i114 o114 a := fun a => by kernel_rfl
noncomputable def S114 : Summ := funSumm tt 26 i114 o114 [.tmp 4] f114
theorem z114 (h : ∀ T, (tt T).ok Tryz.prog T) (h40 : SummOk Tryz.prog 40 S40) : SummOk Tryz.prog 114 S114 :=
  have H := k114 h h40
  fun_at (fn := Tryz.f114) (fr := []) H (by kernel_rfl) (by kernel_rfl) (by kernel_rfl) (by kernel_rfl) (by kernel_rfl) frags_nil (fun y => ⟨_, rfl, rfl⟩) e114
end Go.Proofs

set_option maxRecDepth 100000
set_option linter.unusedVariables false
namespace Go.Proofs
open Go.Jk
-- 115 loop.example/jackstay/spec.l1Up
noncomputable def c115 : Ctx := { tt := tt, fs := fun n => match n with | _ => none }
theorem k115 (h : ∀ T, (tt T).ok Tryz.prog T) : CtxGood Tryz.prog c115 := ⟨⟨h⟩, fun g S hg => (by cases hg), tt_mo, fun _ _ h => (by cases h)⟩
noncomputable def b115 : Code := codeOf Tryz.f115
@[reducible] noncomputable def s115_26 : Shape := ⟨[(0, .lf (.d (.str))), (3, .lf (.d (.int .i64)))], [], 18⟩
@[reducible] noncomputable def t115_26 : List OSh := [(.ret, ⟨[(2, .lf (.d (.str)))], [], 18⟩), (.exit 0, ⟨[], [], 18⟩)]
noncomputable def g115_26 (y : s115_26.Y) : Option (Sum s115_26.Y (YS t115_26)) :=
  bif (decide (y.1.2.1 ≥ (0 : Int))) then
(ix y.1.1 y.1.2.1).bind fun x420 =>
  bif ((x420.toNat : Int) == (47 : Int)) then
(subl y.1.1 (0 : Int) y.1.2.1).bind fun x421 =>
  some (.inr (.inl ((x421, ()), ())))
else
  some (.inl ((y.1.1, ((IntKind.i64.wrap (y.1.2.1 - (1 : Int))), ())), ()))
else
  some (.inr (.inr ((), ())))
theorem r115_26 : ∀ y, g115_26 y = roundF (ctxWith c115 []) (unloop (codeAt b115 1 26)) 26 s115_26 t115_26 y := fun y => by kernel_rfl
noncomputable def l115_26 : s115_26.Y → Option (YS t115_26) := loopF g115_26
theorem q115_26 (H : CtxGood Tryz.prog c115) : FragOk Tryz.prog (codeAt b115 1 26) (fragOrc s115_26 t115_26 l115_26) :=
  loop_at (fr := []) H (by kernel_rfl) (by kernel_rfl) frags_nil (fun y => iter_congr r115_26 y)
@[reducible] noncomputable def i115 : Shape := ⟨[(0, .lf (.d (.str)))], [], 18⟩
@[reducible] noncomputable def o115 : Shape := ⟨[(2, .lf (.d (.str)))], [], 18⟩
noncomputable def f115 (a : i115.Y) : Option o115.Y :=
(l115_26 ((a.1.1, ((IntKind.i64.wrap ((a.1.1.length : Int) - (1 : Int))), ())), ())).bind fun r425 =>
(match r425 with
| .inl r426 =>
  some ((r426.1.1, ()), ())
| .inr r427 =>
  some ((([] : Str), ()), ()))
theorem e115 : ∀ a, f115 a = bodyF (ctxWith c115 [(26, fragOrc s115_26 t115_26 l115_26)]) b115 i115 o115 a := fun a => by kernel_rfl
noncomputable def S115 : Summ := funSumm tt 18 i115 o115 [.tmp 2] f115
theorem z115 (h : ∀ T, (tt T).ok Tryz.prog T) : SummOk Tryz.prog 115 S115 :=
  have H := k115 h
  fun_at (fn := Tryz.f115) (fr := [(26, fragOrc s115_26 t115_26 l115_26)]) H (by kernel_rfl) (by kernel_rfl) (by kernel_rfl) (by kernel_rfl) (by kernel_rfl) ⟨q115_26 H, trivial⟩ (fun y => ⟨_, rfl, rfl⟩) e115
end Go.Proofs

set_option maxRecDepth 100000
set_option linter.unusedVariables false
namespace Go.Proofs
open Go.Jk
-- 160 internal/bytealg.LastIndexByteString
noncomputable def c160 : Ctx := { tt := tt, fs := fun n => match n with | _ => none }
theorem k160 (h : ∀ T, (tt T).ok Tryz.prog T) : CtxGood Tryz.prog c160 := ⟨⟨h⟩, fun g S hg => (by cases hg), tt_mo, fun _ _ h => (by cases h)⟩
noncomputable def b160 : Code := codeOf Tryz.f160
@[reducible] noncomputable def s160_26 : Shape := ⟨[(0, .lf (.d (.str))), (1, .lf (.d (.int .u8))), (5, .lf (.d (.int .i64)))], [], 19⟩
@[reducible] noncomputable def t160_26 : List OSh := [(.ret, ⟨[(4, .lf (.d (.int .i64)))], [], 19⟩), (.exit 0, ⟨[], [], 19⟩)]
noncomputable def g160_26 (y : s160_26.Y) : Option (Sum s160_26.Y (YS t160_26)) :=
  bif (decide (y.1.2.2.1 ≥ (0 : Int))) then
(ix y.1.1 y.1.2.2.1).bind fun x934 =>
  bif ((x934.toNat : Int) == y.1.2.1) then
  some (.inr (.inl ((y.1.2.2.1, ()), ())))
else
  some (.inl ((y.1.1, (y.1.2.1, ((IntKind.i64.wrap (y.1.2.2.1 - (1 : Int))), ()))), ()))
else
  some (.inr (.inr ((), ())))
theorem r160_26 : ∀ y, g160_26 y = roundF (ctxWith c160 []) (unloop (codeAt b160 1 26)) 26 s160_26 t160_26 y := fun y => by kernel_rfl
noncomputable def l160_26 : s160_26.Y → Option (YS t160_26) := loopF g160_26
theorem q160_26 (H : CtxGood Tryz.prog c160) : FragOk Tryz.prog (codeAt b160 1 26) (fragOrc s160_26 t160_26 l160_26) :=
  loop_at (fr := []) H (by kernel_rfl) (by kernel_rfl) frags_nil (fun y => iter_congr r160_26 y)
@[reducible] noncomputable def i160 : Shape := ⟨[(0, .lf (.d (.str))), (1, .lf (.d (.int .u8)))], [], 19⟩
@[reducible] noncomputable def o160 : Shape := ⟨[(4, .lf (.d (.int .i64)))], [], 19⟩
noncomputable def f160 (a : i160.Y) : Option o160.Y :=
(l160_26 ((a.1.1, (a.1.2.1, ((IntKind.i64.wrap ((a.1.1.length : Int) - (1 : Int))), ()))), ())).bind fun r938 =>
(match r938 with
| .inl r939 =>
  some ((r939.1.1, ()), ())
| .inr r940 =>
  some ((((-1) : Int), ()), ()))
theorem e160 : ∀ a, f160 a = bodyF (ctxWith c160 [(26, fragOrc s160_26 t160_26 l160_26)]) b160 i160 o160 a := fun a => by kernel_rfl
noncomputable def S160 : Summ := funSumm tt 19 i160 o160 [.tmp 4] f160
theorem z160 (h : ∀ T, (tt T).ok Tryz.prog T) : SummOk Tryz.prog 160 S160 :=
  have H := k160 h
  fun_at (fn := Tryz.f160) (fr := [(26, fragOrc s160_26 t160_26 l160_26)]) H (by kernel_rfl) (by kernel_rfl) (by kernel_rfl) (by kernel_rfl) (by kernel_rfl) ⟨q160_26 H, trivial⟩ (fun y => ⟨_, rfl, rfl⟩) e160
end Go.Proofs

set_option maxRecDepth 100000
set_option linter.unusedVariables false
namespace Go.Proofs
open Go.Jk
-- 148 strings.LastIndexByte
noncomputable def c148 : Ctx := { tt := tt, fs := fun n => match n with | 160 => some S160 | _ => none }
theorem k148 (h : ∀ T, (tt T).ok Tryz.prog T) (h160 : SummOk Tryz.prog 160 S160) : CtxGood Tryz.prog c148 := ⟨⟨h⟩, fun g S hg => (by
  simp only [c148] at hg
  split at hg
  · cases hg; exact h160
  · cases hg), tt_mo, fun _ _ h => (by cases h)⟩
noncomputable def b148 : Code := codeOf Tryz.f148
@[reducible] noncomputable def i148 : Shape := ⟨[(0, .lf (.d (.str))), (1, .lf (.d (.int .u8)))], [], 8⟩
@[reducible] noncomputable def o148 : Shape := ⟨[(4, .lf (.d (.int .i64)))], [], 8⟩
noncomputable def f148 (a : i148.Y) : Option o148.Y :=
(f160 ((a.1.1, (a.1.2.1, ())), ())).bind fun r942 =>
  some ((r942.1.1, ()), ())
theorem e148 : ∀ a, f148 a = bodyF (ctxWith c148 []) b148 i148 o148 a := fun a => by kernel_rfl
noncomputable def S148 : Summ := funSumm tt 8 i148 o148 [.tmp 4] f148
theorem z148 (h : ∀ T, (tt T).ok Tryz.prog T) (h160 : SummOk Tryz.prog 160 S160) : SummOk Tryz.prog 148 S148 :=
  have H := k148 h h160
  fun_at (fn := Tryz.f148) (fr := []) H (by kernel_rfl) (by kernel_rfl) (by kernel_rfl) (by kernel_rfl) (by kernel_rfl) frags_nil (fun y => ⟨_, rfl, rfl⟩) e148
end Go.Proofs

set_option maxRecDepth 100000
set_option linter.unusedVariables false
namespace Go.Proofs
open Go.Jk
-- 125 loop.example/jackstay/impl.PathUp
noncomputable def c125 : Ctx := { tt := tt, fs := fun n => match n with | 123 => some S123 | 148 => some S148 | _ => none }
theorem k125 (h : ∀ T, (tt T).ok Tryz.prog T) (h123 : SummOk Tryz.prog 123 S123) (h148 : SummOk Tryz.prog 148 S148) : CtxGood Tryz.prog c125 := ⟨⟨h⟩, fun g S hg => (by
  simp only [c125] at hg
  split at hg
  · cases hg; exact h123
  · cases hg; exact h148
  · cases hg), tt_mo, fun _ _ h => (by cases h)⟩
noncomputable def b125 : Code := codeOf Tryz.f125
@[reducible] noncomputable def i125 : Shape := ⟨[(0, .lf (.d (.str)))], [], 11⟩
@[reducible] noncomputable def o125 : Shape := ⟨[(2, .lf (.d (.str)))], [], 11⟩
noncomputable def f125 (a : i125.Y) : Option o125.Y :=
(f123 ((a.1.1, ()), ())).bind fun r948 =>
  bif (!r948.2.1.1) then
  some ((([] : Str), ()), ())
else
(f148 ((a.1.1, ((47 : Int), ())), ())).bind fun r949 =>
(subl a.1.1 (0 : Int) (maxI r949.1.1 (0 : Int))).bind fun x950 =>
  some ((x950, ()), ())
theorem e125 : ∀ a, f125 a = bodyF (ctxWith c125 []) b125 i125 o125 a := fun a => by kernel_rfl
noncomputable def S125 : Summ := funSumm tt 11 i125 o125 [.tmp 2] f125
theorem z125 (h : ∀ T, (tt T).ok Tryz.prog T) (h123 : SummOk Tryz.prog 123 S123) (h148 : SummOk Tryz.prog 148 S148) : SummOk Tryz.prog 125 S125 :=
  have H := k125 h h123 h148
  fun_at (fn := Tryz.f125) (fr := []) H (by kernel_rfl) (by kernel_rfl) (by kernel_rfl) (by kernel_rfl) (by kernel_rfl) frags_nil (fun y => ⟨_, rfl, rfl⟩) e125
end Go.Proofs

set_option maxRecDepth 100000
set_option linter.unusedVariables false
namespace Go.Proofs
open Go.Jk
-- 149 cmp.isNaN[string]
noncomputable def c149 : Ctx := { tt := tt, fs := fun n => match n with | _ => none }
theorem k149 (h : ∀ T, (tt T).ok Tryz.prog T) : CtxGood Tryz.prog c149 := ⟨⟨h⟩, fun g S hg => (by cases hg), tt_mo, fun _ _ h => (by cases h)⟩
noncomputable def b149 : Code := codeOf Tryz.f149
@[reducible] noncomputable def i149 : Shape := ⟨[(0, .lf (.d (.str)))], [], 6⟩
@[reducible] noncomputable def o149 : Shape := ⟨[(2, .lf (.d (.bool)))], [], 6⟩
noncomputable def f149 (a : i149.Y) : Option o149.Y :=
  some (((!(a.1.1 == a.1.1)), ()), ())
theorem e149 : ∀ a, f149 a = bodyF (ctxWith c149 []) b149 i149 o149 a := fun a => by kernel_rfl
noncomputable def S149 : Summ := funSumm tt 6 i149 o149 [.tmp 2] f149
theorem z149 (h : ∀ T, (tt T).ok Tryz.prog T) : SummOk Tryz.prog 149 S149 :=
  have H := k149 h
  fun_at (fn := Tryz.f149) (fr := []) H (by kernel_rfl) (by kernel_rfl) (by kernel_rfl) (by kernel_rfl) (by kernel_rfl) frags_nil (fun y => ⟨_, rfl, rfl⟩) e149
end Go.Proofs

set_option maxRecDepth 100000
set_option linter.unusedVariables false
namespace Go.Proofs
open Go.Jk
-- 126 cmp.Compare[string]
noncomputable def c126 : Ctx := { tt := tt, fs := fun n => match n with | 149 => some S149 | _ => none }
theorem k126 (h : ∀ T, (tt T).ok Tryz.prog T) (h149 : SummOk Tryz.prog 149 S149) : CtxGood Tryz.prog c126 := ⟨⟨h⟩, fun g S hg => (by
  simp only [c126] at hg
  split at hg
  · cases hg; exact h149
  · cases hg), tt_mo, fun _ _ h => (by cases h)⟩
noncomputable def b126 : Code := codeOf Tryz.f126
@[reducible] noncomputable def i126 : Shape := ⟨[(0, .lf (.d (.str))), (1, .lf (.d (.str)))], [], 20⟩
@[reducible] noncomputable def o126 : Shape := ⟨[(4, .lf (.d (.int .i64)))], [], 20⟩
noncomputable def f126 (a : i126.Y) : Option o126.Y :=
(f149 ((a.1.1, ()), ())).bind fun r961 =>
(f149 ((a.1.2.1, ()), ())).bind fun r963 =>
  bif r961.1.1 then
  bif r963.1.1 then
  some (((0 : Int), ()), ())
else
  some ((((-1) : Int), ()), ())
else
  bif r963.1.1 then
  some (((1 : Int), ()), ())
else
  bif (Op.bytesLess a.1.1 a.1.2.1) then
  some ((((-1) : Int), ()), ())
else
  bif (!(Op.bytesLess a.1.1 a.1.2.1 || a.1.1 == a.1.2.1)) then
  some (((1 : Int), ()), ())
else
  some (((0 : Int), ()), ())
theorem e126 : ∀ a, f126 a = bodyF (ctxWith c126 []) b126 i126 o126 a := fun a => by kernel_rfl
noncomputable def S126 : Summ := funSumm tt 20 i126 o126 [.tmp 4] f126
theorem z126 (h : ∀ T, (tt T).ok Tryz.prog T) (h149 : SummOk Tryz.prog 149 S149) : SummOk Tryz.prog 126 S126 :=
  have H := k126 h h149
  fun_at (fn := Tryz.f126) (fr := []) H (by kernel_rfl) (by kernel_rfl) (by kernel_rfl) (by kernel_rfl) (by kernel_rfl) frags_nil (fun y => ⟨_, rfl, rfl⟩) e126
end Go.Proofs

set_option maxRecDepth 100000
set_option linter.unusedVariables false
namespace Go.Proofs
open Go.Jk
-- 99 loop.example/jackstay/impl.byPath
noncomputable def c99 : Ctx := { tt := tt, fs := fun n => match n with | 126 => some S126 | _ => none }
theorem k99 (h : ∀ T, (tt T).ok Tryz.prog T) (h126 : SummOk Tryz.prog 126 S126) : CtxGood Tryz.prog c99 := ⟨⟨h⟩, fun g S hg => (by
  simp only [c99] at hg
  split at hg
  · cases hg; exact h126
  · cases hg), tt_mo, fun _ _ h => (by cases h)⟩
noncomputable def b99 : Code := codeOf Tryz.f99
@[reducible] noncomputable def i99 : Shape := ⟨[(0, .agg [.d (.str), .d (.int .i64), .d (.int .i64), .d (.str)]), (1, .agg [.d (.str), .d (.int .i64), .d (.int .i64), .d (.str)])], [], 10⟩
@[reducible] noncomputable def o99 : Shape := ⟨[(4, .lf (.d (.int .i64)))], [], 10⟩
noncomputable def f99 (a : i99.Y) : Option o99.Y :=
(f126 ((a.1.1.1, (a.1.2.1.1, ())), ())).bind fun r965 =>
  some ((r965.1.1, ()), ())
theorem e99 : ∀ a, f99 a = bodyF (ctxWith c99 []) b99 i99 o99 a := fun a => by kernel_rfl
noncomputable def S99 : Summ := funSumm tt 10 i99 o99 [.tmp 4] f99
theorem z99 (h : ∀ T, (tt T).ok Tryz.prog T) (h126 : SummOk Tryz.prog 126 S126) : SummOk Tryz.prog 99 S99 :=
  have H := k99 h h126
  fun_at (fn := Tryz.f99) (fr := []) H (by kernel_rfl) (by kernel_rfl) (by kernel_rfl) (by kernel_rfl) (by kernel_rfl) frags_nil (fun y => ⟨_, rfl, rfl⟩) e99
end Go.Proofs

set_option maxRecDepth 100000
set_option linter.unusedVariables false
namespace Go.Proofs
open Go.Jk
-- 98v0 slices.BinarySearchFunc[[]loop.example/jackstay/impl.Entry,loop.example/jackstay/impl.Entry,loop.example/jackstay/impl.Entry]
noncomputable def c98v0 : Ctx := { tt := tt, fs := fun n => match n with | 99 => some S99 | _ => none }
theorem k98v0 (h : ∀ T, (tt T).ok Tryz.prog T) (h99 : SummOk Tryz.prog 99 S99) : CtxGood Tryz.prog c98v0 := ⟨⟨h⟩, fun g S hg => (by
  simp only [c98v0] at hg
  split at hg
  · cases hg; exact h99
  · cases hg), tt_mo, fun _ _ h => (by cases h)⟩
noncomputable def b98v0 : Code := codeOf Tryz.f98
@[reducible] noncomputable def s98v0_60 : Shape := ⟨[(0, .lf (.d (.sl .entry))), (2, .lf (.fn 99 [])), (4, .lf (.ptr 4 0)), (6, .lf (.d (.int .i64))), (7, .lf (.d (.bool))), (8, .lf (.d (.int .i64))), (9, .lf (.d (.int .i64))), (10, .lf (.d (.int .i64)))], [(4, .box [.d (.str), .d (.int .i64), .d (.int .i64), .d (.str)], .same)], 49⟩
@[reducible] noncomputable def t98v0_60 : List OSh := [(.exit 0, ⟨[(0, .lf (.d (.sl .entry))), (2, .lf (.fn 99 [])), (4, .lf (.ptr 4 0)), (6, .lf (.d (.int .i64))), (7, .lf (.d (.bool))), (8, .lf (.d (.int .i64))), (9, .lf (.d (.int .i64)))], [(4, .box [.d (.str), .d (.int .i64), .d (.int .i64), .d (.str)], .same)], 49⟩)]
noncomputable def g98v0_60 (y : s98v0_60.Y) : Option (Sum s98v0_60.Y (YS t98v0_60)) :=
  bif (decide (y.1.2.2.2.2.2.2.1 < y.1.2.2.2.2.2.2.2.1)) then
(shrI .u64 (IntKind.u64.wrap (IntKind.i64.wrap (y.1.2.2.2.2.2.2.1 + y.1.2.2.2.2.2.2.2.1))) (1 : Int)).bind fun x970 =>
(ix y.1.1 (IntKind.i64.wrap x970)).bind fun x973 =>
(f99 (((x973.path, (x973.kind, (x973.mode, (x973.text, ())))), ((y.2.1.1, (y.2.1.2.1, (y.2.1.2.2.1, (y.2.1.2.2.2.1, ())))), ())), ())).bind fun r974 =>
  bif (decide (r974.1.1 < (0 : Int))) then
  some (.inl ((y.1.1, ((), ((), (y.1.2.2.2.1, (y.1.2.2.2.2.1, (y.1.2.2.2.2.2.1, ((IntKind.i64.wrap ((IntKind.i64.wrap x970) + (1 : Int))), (y.1.2.2.2.2.2.2.2.1, ())))))))), ((y.2.1.1, (y.2.1.2.1, (y.2.1.2.2.1, (y.2.1.2.2.2.1, ())))), ())))
else
  some (.inl ((y.1.1, ((), ((), (y.1.2.2.2.1, (y.1.2.2.2.2.1, (y.1.2.2.2.2.2.1, (y.1.2.2.2.2.2.2.1, ((IntKind.i64.wrap x970), ())))))))), ((y.2.1.1, (y.2.1.2.1, (y.2.1.2.2.1, (y.2.1.2.2.2.1, ())))), ())))
else
  some (.inr (((y.1.1, ((), ((), (y.1.2.2.2.1, (y.1.2.2.2.2.1, (y.1.2.2.2.2.2.1, (y.1.2.2.2.2.2.2.1, ()))))))), ((y.2.1.1, (y.2.1.2.1, (y.2.1.2.2.1, (y.2.1.2.2.2.1, ())))), ()))))
theorem r98v0_60 : ∀ y, g98v0_60 y = roundF (ctxWith c98v0 []) (unloop (codeAt b98v0 1 60)) 60 s98v0_60 t98v0_60 y := fun y => by kernel_rfl
noncomputable def l98v0_60 : s98v0_60.Y → Option (YS t98v0_60) := loopF g98v0_60
theorem q98v0_60 (H : CtxGood Tryz.prog c98v0) : FragOk Tryz.prog (codeAt b98v0 1 60) (fragOrc s98v0_60 t98v0_60 l98v0_60) :=
  loop_at (fr := []) H (by kernel_rfl) (by kernel_rfl) frags_nil (fun y => iter_congr r98v0_60 y)
@[reducible] noncomputable def i98v0 : Shape := ⟨[(0, .lf (.d (.sl .entry))), (1, .agg [.d (.str), .d (.int .i64), .d (.int .i64), .d (.str)]), (2, .lf (.fn 99 []))], [], 49⟩
@[reducible] noncomputable def o98v0 : Shape := ⟨[(6, .lf (.d (.int .i64))), (7, .lf (.d (.bool)))], [], 49⟩
noncomputable def f98v0 (a : i98v0.Y) : Option o98v0.Y :=
(l98v0_60 ((a.1.1, ((), ((), ((0 : Int), (false, ((a.1.1.length : Int), ((0 : Int), ((a.1.1.length : Int), ())))))))), ((a.1.2.1.1, (a.1.2.1.2.1, (a.1.2.1.2.2.1, (a.1.2.1.2.2.2.1, ())))), ()))).bind fun r978 =>
  bif (decide (r978.1.2.2.2.2.2.2.1 < r978.1.2.2.2.2.2.1)) then
(ix r978.1.1 r978.1.2.2.2.2.2.2.1).bind fun x979 =>
(f99 (((x979.path, (x979.kind, (x979.mode, (x979.text, ())))), ((r978.2.1.1, (r978.2.1.2.1, (r978.2.1.2.2.1, (r978.2.1.2.2.2.1, ())))), ())), ())).bind fun r980 =>
  some ((r978.1.2.2.2.2.2.2.1, ((r980.1.1 == (0 : Int)), ())), ())
else
  some ((r978.1.2.2.2.2.2.2.1, (false, ())), ())
theorem e98v0 : ∀ a, f98v0 a = bodyF (ctxWith c98v0 [(60, fragOrc s98v0_60 t98v0_60 l98v0_60)]) b98v0 i98v0 o98v0 a := fun a => by kernel_rfl
noncomputable def S98v0 : Summ := funSumm tt 49 i98v0 o98v0 [.tmp 6, .tmp 7] f98v0
theorem z98v0 (h : ∀ T, (tt T).ok Tryz.prog T) (h99 : SummOk Tryz.prog 99 S99) : SummOk Tryz.prog 98 S98v0 :=
  have H := k98v0 h h99
  fun_at (fn := Tryz.f98) (fr := [(60, fragOrc s98v0_60 t98v0_60 l98v0_60)]) H (by kernel_rfl) (by kernel_rfl) (by kernel_rfl) (by kernel_rfl) (by kernel_rfl) ⟨q98v0_60 H, trivial⟩ (fun y => ⟨_, rfl, rfl⟩) e98v0
end Go.Proofs

set_option maxRecDepth 100000
set_option linter.unusedVariables false
namespace Go.Proofs
open Go.Jk
-- 68 loop.example/jackstay/impl.findEntry
noncomputable def c68 : Ctx := { tt := tt, fs := fun n => match n with | 98 => some S98v0 | _ => none }
theorem k68 (h : ∀ T, (tt T).ok Tryz.prog T) (h98v0 : SummOk Tryz.prog 98 S98v0) : CtxGood Tryz.prog c68 := ⟨⟨h⟩, fun g S hg => (by
  simp only [c68] at hg
  split at hg
  · cases hg; exact h98v0
  · cases hg), tt_mo, fun _ _ h => (by cases h)⟩
noncomputable def b68 : Code := codeOf Tryz.f68
@[reducible] noncomputable def i68 : Shape := ⟨[(0, .lf (.d (.sl .entry))), (1, .lf (.d (.str)))], [], 12⟩
@[reducible] noncomputable def o68 : Shape := ⟨[(4, .lf (.d (.int .i64))), (5, .lf (.d (.bool)))], [], 12⟩
noncomputable def f68 (a : i68.Y) : Option o68.Y :=
(f98v0 ((a.1.1, ((a.1.2.1, ((0 : Int), ((0 : Int), (([] : Str), ())))), ((), ()))), ())).bind fun r982 =>
  some ((r982.1.1, (r982.1.2.1, ())), ())
theorem e68 : ∀ a, f68 a = bodyF (ctxWith c68 []) b68 i68 o68 a := fun a => by kernel_rfl
noncomputable def S68 : Summ := funSumm tt 12 i68 o68 [.tmp 4, .tmp 5] f68
theorem z68 (h : ∀ T, (tt T).ok Tryz.prog T) (h98v0 : SummOk Tryz.prog 98 S98v0) : SummOk Tryz.prog 68 S68 :=
  have H := k68 h h98v0
  fun_at (fn := Tryz.f68) (fr := []) H (by kernel_rfl) (by kernel_rfl) (by kernel_rfl) (by kernel_rfl) (by kernel_rfl) frags_nil (fun y => ⟨_, rfl, rfl⟩) e68
end Go.Proofs

set_option maxRecDepth 100000
set_option linter.unusedVariables false
set_option linter.unusedSimpArgs false
namespace Go.Proofs
open Go.Jk

/- The order of texts. -/
theorem bl_irr : ∀ a : Str, Op.bytesLess a a = false := by
  intro a
  induction a with
  | nil => rfl
  | cons b r ih => simp [Op.bytesLess, ih]
theorem bl_trans : ∀ a b c : Str, Op.bytesLess a b = true → Op.bytesLess b c = true → Op.bytesLess a c = true := by
  intro a
  induction a with
  | nil => intro b c h1 h2; cases c with
    | nil => cases b <;> simp [Op.bytesLess] at h2
    | cons z c => rfl
  | cons x a ih =>
    intro b c h1 h2
    cases b with
    | nil => simp [Op.bytesLess] at h1
    | cons y b =>
      cases c with
      | nil => simp [Op.bytesLess] at h2
      | cons z c =>
        simp only [Op.bytesLess, Bool.or_eq_true, decide_eq_true_eq, Bool.and_eq_true, beq_iff_eq] at h1 h2 ⊢
        rcases h1 with h1 | ⟨rfl, h1⟩
        · rcases h2 with h2 | ⟨rfl, h2⟩
          · exact .inl (UInt8.lt_trans h1 h2)
          · exact .inl h1
        · rcases h2 with h2 | ⟨rfl, h2⟩
          · exact .inl h2
          · exact .inr ⟨rfl, ih b c h1 h2⟩
theorem bl_tri : ∀ a b : Str, Op.bytesLess a b = false → (a == b) = false → Op.bytesLess b a = true := by
  intro a
  induction a with
  | nil => intro b h1 h2; cases b with
    | nil => simp at h2
    | cons y b => simp [Op.bytesLess] at h1
  | cons x a ih =>
    intro b h1 h2
    cases b with
    | nil => rfl
    | cons y b =>
      simp only [Op.bytesLess, Bool.or_eq_false_iff, decide_eq_false_iff_not, Bool.and_eq_false_iff, beq_eq_false_iff_ne, ne_eq] at h1
      simp only [Op.bytesLess, Bool.or_eq_true, decide_eq_true_eq, Bool.and_eq_true, beq_iff_eq]
      by_cases hxy : x = y
      · subst hxy
        refine .inr ⟨rfl, ih b ?_ ?_⟩
        · rcases h1.2 with h | h
          · exact absurd rfl h
          · exact h
        · cases h : (a == b) with
          | false => rfl
          | true => rw [eq_of_beq h] at h2; simp at h2
      · exact .inl (by
          have := h1.1
          rcases UInt8.lt_or_lt_of_ne (fun h => hxy h) with h | h
          · exact absurd h this
          · exact h)
theorem bl_asym {a b : Str} (h : Op.bytesLess a b = true) : Op.bytesLess b a = false := by
  cases h2 : Op.bytesLess b a with
  | false => rfl
  | true => have := bl_trans a b a h h2; rw [bl_irr] at this; cases this
theorem bl_ne {a b : Str} (h : Op.bytesLess a b = true) : (a == b) = false := by
  cases h2 : (a == b) with
  | false => rfl
  | true => rw [eq_of_beq h2, bl_irr] at h; cases h
theorem bl_take : ∀ (s : Str) (i : Nat), i < s.length → Op.bytesLess (s.take i) s = true := by
  intro s
  induction s with
  | nil => intro i h; simp at h
  | cons b r ih =>
    intro i h
    cases i with
    | zero => rfl
    | succ i => simp only [List.take_succ_cons, Op.bytesLess]; simp [ih i (by simpa using h)]

/- The place above. -/
def lastBelow (c : UInt8) (s : Str) : Nat → Option Nat
  | 0 => none
  | n + 1 => match s[n]? with
    | some b => bif (b.toNat : Int) == (c.toNat : Int) then some n else lastBelow c s n
    | none => none
theorem lastBelow_lt {c : UInt8} {s : Str} : ∀ {n i : Nat}, lastBelow c s n = some i → i < n ∧ i < s.length := by
  intro n
  induction n with
  | zero => intro i h; cases h
  | succ n ih =>
    intro i h
    simp only [lastBelow] at h
    split at h
    · rename_i b hb
      cases hc : ((b.toNat : Int) == (c.toNat : Int)) with
      | true => rw [hc] at h; cases h; exact ⟨Nat.lt_succ_self _, get_lt hb⟩
      | false => rw [hc] at h; have := ih h; omega
    · cases h
def upL (s : Str) : Str := match lastBelow 47 s s.length with
  | some i => s.take i
  | none => []
theorem upL_less {s : Str} (h : (upL s == []) = false) : Op.bytesLess (upL s) s = true := by
  unfold upL at h ⊢
  split
  · rename_i i hi; exact bl_take s i (lastBelow_lt hi).2
  · rename_i hi; rw [hi] at h; cases h
theorem upL_len (s : Str) : (upL s).length ≤ s.length := by
  unfold upL
  split
  · rw [List.length_take]; omega
  · simp

theorem v_l1Up (a) (hs : Bd a.1.1.length) : f115 a = some ((upL a.1.1, ()), ()) := by
  obtain ⟨⟨s, u⟩, u'⟩ := a
  have hs : s.length ≤ 2097152 := hs
  have key : ∀ n, n ≤ s.length → l115_26 ((s, ((n : Int) - 1, ())), ()) = some (match lastBelow 47 s n with | some i => .inl ((s.take i, ()), ()) | none => .inr ((), ())) := by
    intro n
    induction n with
    | zero => intro _; exact loopF_r (by rfl)
    | succ n ih =>
      intro hn
      have e : ((n + 1 : Nat) : Int) - 1 = (n : Int) := by omega
      obtain ⟨b, hb⟩ : ∃ b, s[n]? = some b := ⟨s[n], List.getElem?_eq_getElem hn⟩
      have h0 : decide ((n : Int) ≥ 0) = true := by simp
      rw [e]
      simp only [lastBelow, hb]
      cases hc : ((b.toNat : Int) == ((47 : UInt8).toNat : Int)) with
      | true =>
        refine loopF_r ?_
        simp only [g115_26, h0, cond_true, ix_nat, hb, Option.bind_some]
        rw [show ((b.toNat : Int) == 47) = true from hc, subl_to (by omega)]
        rfl
      | false =>
        refine (loopF_l ?_).trans (ih (by omega))
        simp only [g115_26, h0, cond_true, ix_nat, hb, Option.bind_some]
        rw [show ((b.toNat : Int) == 47) = false from hc, wrap_of (by omega) (by omega)]
        rfl
  have hw : IntKind.i64.wrap ((s.length : Int) - 1) = (s.length : Int) - 1 := wrap_of (by omega) (by omega)
  simp only [f115, hw, key s.length (Nat.le_refl _), Option.bind_some, upL]
  cases lastBelow 47 s s.length <;> rfl

theorem v_LastIndex (a) (hs : Bd a.1.1.length) (h47 : a.1.2.1 = 47) : f160 a = some (((match lastBelow 47 a.1.1 a.1.1.length with | some i => (i : Int) | none => -1), ()), ()) := by
  obtain ⟨⟨s, c, u⟩, u'⟩ := a
  obtain rfl : c = 47 := h47
  have hs : s.length ≤ 2097152 := hs
  have key : ∀ n, n ≤ s.length → l160_26 ((s, ((47 : Int), ((n : Int) - 1, ()))), ()) = some (match lastBelow 47 s n with | some i => .inl (((i : Int), ()), ()) | none => .inr ((), ())) := by
    intro n
    induction n with
    | zero => intro _; exact loopF_r (by rfl)
    | succ n ih =>
      intro hn
      have e : ((n + 1 : Nat) : Int) - 1 = (n : Int) := by omega
      obtain ⟨b, hb⟩ : ∃ b, s[n]? = some b := ⟨s[n], List.getElem?_eq_getElem hn⟩
      have h0 : decide ((n : Int) ≥ 0) = true := by simp
      rw [e]
      simp only [lastBelow, hb]
      cases hc : ((b.toNat : Int) == ((47 : UInt8).toNat : Int)) with
      | true =>
        refine loopF_r ?_
        simp only [g160_26, h0, cond_true, ix_nat, hb, Option.bind_some]
        rw [show ((b.toNat : Int) == 47) = true from hc]
        rfl
      | false =>
        refine (loopF_l ?_).trans (ih (by omega))
        simp only [g160_26, h0, cond_true, ix_nat, hb, Option.bind_some]
        rw [show ((b.toNat : Int) == 47) = false from hc, wrap_of (by omega) (by omega)]
        rfl
  have hw : IntKind.i64.wrap ((s.length : Int) - 1) = (s.length : Int) - 1 := wrap_of (by omega) (by omega)
  simp only [f160, hw, key s.length (Nat.le_refl _), Option.bind_some]
  cases lastBelow 47 s s.length <;> rfl

theorem v_PathUp (a) (hs : Bd a.1.1.length) : f125 a = some (((bif pathOk a.1.1 then upL a.1.1 else []), ()), ()) := by
  obtain ⟨⟨s, u⟩, u'⟩ := a
  have hs : s.length ≤ 2097152 := hs
  have e1 := v_PathOk ((s, ()), ()) hs
  have e2 := v_LastIndex ((s, ((47 : Int), ())), ()) hs rfl
  simp only [f125, e1, Option.bind_some, f148, e2]
  cases pathOk s with
  | false => rfl
  | true =>
    simp only [Bool.not_true, cond_false, cond_true]
    unfold upL
    cases hl : lastBelow 47 s s.length with
    | none =>
      have : maxI (-1) 0 = 0 := by decide
      simp only [this]
      have := subl_to (xs := s) (b := 0) (Nat.zero_le _)
      have this : subl s 0 0 = some (s.take 0) := this
      rw [this]; rfl
    | some i =>
      have hi := (lastBelow_lt hl).2
      have : maxI (i : Int) 0 = (i : Int) := by unfold maxI; rw [if_neg (by omega)]
      simp only [this]
      rw [subl_to (by omega)]; rfl

/- Finding an entry. -/
def posL (t : List Entry) (p : Str) : Nat := (t.takeWhile fun e => Op.bytesLess e.path p).length
def hasAt (t : List Entry) (p : Str) : Bool := match t[posL t p]? with
  | some e => e.path == p
  | none => false
def dirIn (t : List Entry) (p : Str) : Bool := p == [] || match t[posL t p]? with
  | some e => e.path == p && e.kind == 1
  | none => false
theorem posL_le (t : List Entry) (p : Str) : posL t p ≤ t.length := (List.takeWhile_prefix _).length_le

theorem v_l2At (a) (hs : Bd a.1.1.length) : f40 a = some (((posL a.1.1 a.1.2.1 : Int), (hasAt a.1.1 a.1.2.1, ())), ()) := by
  obtain ⟨⟨t, p, u⟩, u'⟩ := a
  have hs : t.length ≤ 2097152 := hs
  have key : l40_28 ((t, (p, ((0 : Int), (false, ((0 : Int), ()))))), ()) = _ := loop_list g40_28 t (fun i (_ : Unit) => ((t, (p, ((0 : Int), (false, ((i : Int), ()))))), ()))
    (fun i e _ => some (bif Op.bytesLess e.path p then .inl () else .inr ((((t, (p, ((0 : Int), (false, ((i : Int), ()))))), ())) : YS t40_28))) (fun _ => ((t, (p, ((0 : Int), (false, ((t.length : Int), ()))))), ())) (fun i e s he => ?_) (fun s => ?_) ()
  · have fold : ∀ (r : List Entry) (k : Nat), k + r.length = t.length → foldB (fun i (e : Entry) (_ : Unit) => some (bif Op.bytesLess e.path p then .inl () else .inr ((((t, (p, ((0 : Int), (false, ((i : Int), ()))))), ())) : YS t40_28))) (fun _ => (((t, (p, ((0 : Int), (false, ((t.length : Int), ()))))), ()) : YS t40_28)) k r () =
        some ((t, (p, ((0 : Int), (false, (((k + (r.takeWhile fun e => Op.bytesLess e.path p).length : Nat) : Int), ()))))), ()) := by
      intro r
      induction r with
      | nil => intro k hk; simp only [foldB, List.takeWhile_nil, List.length_nil, Nat.add_zero] at hk ⊢; rw [hk]
      | cons e r ih =>
        intro k hk
        simp only [foldB, List.takeWhile_cons]
        cases hl : Op.bytesLess e.path p with
        | false => rfl
        | true =>
          simp only [cond_true, if_true, List.length_cons]
          rw [ih (k + 1) (by simp only [List.length_cons] at hk; omega)]
          have : k + 1 + (r.takeWhile fun e => Op.bytesLess e.path p).length = k + ((r.takeWhile fun e => Op.bytesLess e.path p).length + 1) := by omega
          rw [this]
    rw [fold t 0 (Nat.zero_add _), Nat.zero_add] at key
    have hk : (t.takeWhile fun e => Op.bytesLess e.path p).length = posL t p := rfl
    rw [hk] at key
    simp only [f40, key, Option.bind_some, hasAt, ix_nat]
    cases ht : t[posL t p]? with
    | none =>
      have := List.getElem?_eq_none_iff.1 ht
      have : decide ((posL t p : Int) < (t.length : Int)) = false := by simp only [decide_eq_false_iff_not]; omega
      rw [this]; rfl
    | some e => rw [lt_dec (get_lt ht)]; rfl
  · have hi := get_lt he
    have hw : Sm i := by unfold Sm; omega
    simp only [g40_28, lt_dec hi, cond_true, ix_nat, he, Option.bind_some, wrap_add1 hw]
    cases Op.bytesLess e.path p <;> rfl
  · simp only [g40_28, nlt_dec, cond_false]

theorem v_l2Dir (a) (hs : Bd a.1.1.length) : f114 a = some ((dirIn a.1.1 a.1.2.1, ()), ()) := by
  obtain ⟨⟨t, p, u⟩, u'⟩ := a
  have e1 := v_l2At ((t, (p, ())), ()) hs
  simp only [f114, e1, Option.bind_some, dirIn, hasAt, ix_nat]
  cases (p == []) with
  | true => rfl
  | false =>
    cases ht : t[posL t p]? with
    | none => rfl
    | some e => simp only [Bool.not_false, cond_true, Option.bind_some, Bool.false_or]; cases (e.path == p) <;> rfl

/-- Entries in their order. -/
def Asc (t : List Entry) : Prop := t.Pairwise fun a b => Op.bytesLess a.path b.path = true
theorem Asc.take {t : List Entry} (h : Asc t) (i : Nat) : Asc (t.take i) := List.Pairwise.sublist (List.take_sublist i t) h

theorem pos_spec : ∀ {t : List Entry} {p : Str}, Asc t → ∀ (h : Nat) (e : Entry), t[h]? = some e → Op.bytesLess e.path p = decide (h < posL t p) := by
  intro t p
  induction t with
  | nil => intro _ h e he; simp at he
  | cons x t ih =>
    intro ha h e he
    have ha' := List.pairwise_cons.1 ha
    unfold posL
    rw [List.takeWhile_cons]
    cases hx : Op.bytesLess x.path p with
    | true =>
      simp only [if_true, List.length_cons]
      cases h with
      | zero => simp only [List.getElem?_cons_zero, Option.some.injEq] at he; subst he; rw [hx]; simp
      | succ h =>
        simp only [List.getElem?_cons_succ] at he
        rw [ih ha'.2 h e he]
        unfold posL
        congr 1; apply propext; omega
    | false =>
      have : (decide (h < (if false = true then x :: t.takeWhile (fun e => Op.bytesLess e.path p) else []).length)) = false := by simp
      rw [this]
      cases h with
      | zero => simp only [List.getElem?_cons_zero, Option.some.injEq] at he; subst he; exact hx
      | succ h =>
        simp only [List.getElem?_cons_succ] at he
        have h2 := ha'.1 e (List.mem_of_getElem? he)
        cases h3 : Op.bytesLess e.path p with
        | false => rfl
        | true => have := bl_trans _ _ _ h2 h3; rw [hx] at this; cases this

def cmpI (a b : Str) : Int := bif Op.bytesLess a b then -1 else bif a == b then 0 else 1
theorem v_byPath (a) : f99 a = some ((cmpI a.1.1.1 a.1.2.1.1, ()), ()) := by
  obtain ⟨⟨⟨p, x1⟩, ⟨⟨q, x2⟩, x3⟩⟩, x4⟩ := a
  have h1 : (p == p) = true := by simp
  have h2 : (q == q) = true := by simp
  simp only [f99, f126, f149, Option.bind_some, h1, h2, Bool.not_true, cond_false, cmpI]
  cases Op.bytesLess p q <;> cases (p == q) <;> rfl
theorem cmpI_neg (a b : Str) : decide (cmpI a b < 0) = Op.bytesLess a b := by
  unfold cmpI
  cases Op.bytesLess a b <;> cases (a == b) <;> rfl
theorem cmpI_zero (a b : Str) : (cmpI a b == 0) = (a == b) := by
  unfold cmpI
  cases h : Op.bytesLess a b with
  | true => rw [bl_ne h]; rfl
  | false => cases (a == b) <;> rfl

theorem shr1 {n : Nat} (h : n ≤ 1099511627776) : shrI .u64 (IntKind.u64.wrap (IntKind.i64.wrap (n : Int))) 1 = some (((n / 2 : Nat)) : Int) := by
  rw [wrap_of (by omega) (by omega)]
  have : IntKind.u64.wrap (n : Int) = (n : Int) := by
    simp [IntKind.wrap, IntKind.bits, IntKind.signed]
    omega
  rw [this]
  unfold shrI
  rw [if_neg (by decide)]
  congr 1
  show Int.fdiv (n : Int) 2 = _
  rw [Int.fdiv_eq_ediv_of_nonneg _ (by decide)]
  omega

theorem v_findEntry (a) (hs : Bd a.1.1.length) (ha : Asc a.1.1) : f68 a = some (((posL a.1.1 a.1.2.1 : Int), (hasAt a.1.1 a.1.2.1, ())), ()) := by
  obtain ⟨⟨t, p, u⟩, u'⟩ := a
  have hs : t.length ≤ 2097152 := hs
  have hP := posL_le t p
  have key : ∀ d i j : Nat, j - i = d → i ≤ posL t p → posL t p ≤ j → j ≤ t.length →
      l98v0_60 ((t, ((), ((), ((0 : Int), (false, ((t.length : Int), ((i : Int), ((j : Int), ())))))))), ((p, ((0 : Int), ((0 : Int), (([] : Str), ())))), ())) =
        some (((t, ((), ((), ((0 : Int), (false, ((t.length : Int), ((posL t p : Int), ()))))))), ((p, ((0 : Int), ((0 : Int), (([] : Str), ())))), ()))) := by
    intro d
    induction d using Nat.strongRecOn with
    | _ d ih =>
      intro i j hd hi hj hl
      by_cases hij : i < j
      · have hh : (i + j) / 2 < t.length := by omega
        obtain ⟨e, he⟩ : ∃ e, t[(i + j) / 2]? = some e := ⟨t[(i + j) / 2], List.getElem?_eq_getElem hh⟩
        have hsh : shrI .u64 (IntKind.u64.wrap (IntKind.i64.wrap ((i : Int) + (j : Int)))) 1 = some ((((i + j) / 2 : Nat)) : Int) := by
          rw [← shr1 (n := i + j) (by omega)]; rw [Int.natCast_add]
        have hwh : IntKind.i64.wrap (((i + j) / 2 : Nat) : Int) = (((i + j) / 2 : Nat) : Int) := wrap_of (by omega) (by omega)
        have hps := pos_spec (t := t) (p := p) ha ((i + j) / 2) e he
        cases hb : Op.bytesLess e.path p with
        | true =>
          rw [hb] at hps
          have hlt : (i + j) / 2 < posL t p := by simpa using hps.symm
          refine (loopF_l ?_).trans (ih (j - ((i + j) / 2 + 1)) (by omega) ((i + j) / 2 + 1) j rfl (by omega) hj hl)
          simp only [g98v0_60, lt_dec hij, cond_true, hsh, hwh, ix_nat, he, Option.bind_some, v_byPath, cmpI_neg, hb, wrap_add1 (i := (i + j) / 2) (by unfold Sm; omega)]
        | false =>
          rw [hb] at hps
          have hge : ¬ (i + j) / 2 < posL t p := by simpa using hps.symm
          refine (loopF_l ?_).trans (ih ((i + j) / 2 - i) (by omega) i ((i + j) / 2) rfl hi (by omega) (by omega))
          simp only [g98v0_60, lt_dec hij, cond_true, hsh, hwh, ix_nat, he, Option.bind_some, v_byPath, cmpI_neg, hb, cond_false]
      · have hi' : i = posL t p := by omega
        have hlt : decide ((i : Int) < (j : Int)) = false := by simp only [decide_eq_false_iff_not]; omega
        refine loopF_r ?_
        simp only [g98v0_60, hlt, cond_false]
        rw [hi']
  have k0 : l98v0_60 ((t, ((), ((), ((0 : Int), (false, ((t.length : Int), ((0 : Int), ((t.length : Int), ())))))))), ((p, ((0 : Int), ((0 : Int), (([] : Str), ())))), ())) = _ := key t.length 0 t.length (Nat.sub_zero _) (Nat.zero_le _) hP (Nat.le_refl _)
  have fb : f98v0 ((t, ((p, ((0 : Int), ((0 : Int), (([] : Str), ())))), ((), ()))), ()) = some (((posL t p : Int), (hasAt t p, ())), ()) := by
    simp only [f98v0, k0, Option.bind_some, hasAt, ix_nat, v_byPath, cmpI_zero]
    cases ht : t[posL t p]? with
    | none =>
      have := List.getElem?_eq_none_iff.1 ht
      have : decide ((posL t p : Int) < (t.length : Int)) = false := by simp only [decide_eq_false_iff_not]; omega
      rw [this]; rfl
    | some e => rw [lt_dec (get_lt ht)]; rfl
  simp only [f68, fb, Option.bind_some]
end Go.Proofs

set_option maxRecDepth 100000
set_option linter.unusedVariables false
namespace Go.Proofs
open Go.Jk
-- 97 loop.example/jackstay/impl.hasPlaceFor
noncomputable def c97 : Ctx := { tt := tt, fs := fun n => match n with | 68 => some S68 | 125 => some S125 | _ => none }
theorem k97 (h : ∀ T, (tt T).ok Tryz.prog T) (h68 : SummOk Tryz.prog 68 S68) (h125 : SummOk Tryz.prog 125 S125) : CtxGood Tryz.prog c97 := ⟨⟨h⟩, fun g S hg => (by
  simp only [c97] at hg
  split at hg
  · cases hg; exact h68
  · cases hg; exact h125
  · cases hg), tt_mo, fun _ _ h => (by cases h)⟩
noncomputable def b97 : Code := codeOf Tryz.f97
@[reducible] noncomputable def i97 : Shape := ⟨[(0, .lf (.d (.sl .entry))), (1, .lf (.d (.str)))], [], 27⟩
@[reducible] noncomputable def o97 : Shape := ⟨[(4, .lf (.d (.bool)))], [], 27⟩
noncomputable def f97 (a : i97.Y) : Option o97.Y :=
(f125 ((a.1.2.1, ()), ())).bind fun r987 =>
  bif (r987.1.1 == ([] : Str)) then
  some ((true, ()), ())
else
(f68 ((a.1.1, (r987.1.1, ())), ())).bind fun r989 =>
  bif r989.1.2.1 then
(ix a.1.1 r989.1.1).bind fun x990 =>
  some (((x990.kind == (1 : Int)), ()), ())
else
  some ((false, ()), ())
theorem e97 : ∀ a, f97 a = bodyF (ctxWith c97 []) b97 i97 o97 a := fun a => by kernel_rfl
noncomputable def S97 : Summ := funSumm tt 27 i97 o97 [.tmp 4] f97
theorem z97 (h : ∀ T, (tt T).ok Tryz.prog T) (h68 : SummOk Tryz.prog 68 S68) (h125 : SummOk Tryz.prog 125 S125) : SummOk Tryz.prog 97 S97 :=
  have H := k97 h h68 h125
  fun_at (fn := Tryz.f97) (fr := []) H (by kernel_rfl) (by kernel_rfl) (by kernel_rfl) (by kernel_rfl) (by kernel_rfl) frags_nil (fun y => ⟨_, rfl, rfl⟩) e97
end Go.Proofs

set_option maxRecDepth 100000
set_option linter.unusedVariables false
namespace Go.Proofs
open Go.Jk
-- 67 loop.example/jackstay/impl.TreeOk
noncomputable def c67 : Ctx := { tt := tt, fs := fun n => match n with | 96 => some S96 | 97 => some S97 | _ => none }
theorem k67 (h : ∀ T, (tt T).ok Tryz.prog T) (h96 : SummOk Tryz.prog 96 S96) (h97 : SummOk Tryz.prog 97 S97) : CtxGood Tryz.prog c67 := ⟨⟨h⟩, fun g S hg => (by
  simp only [c67] at hg
  split at hg
  · cases hg; exact h96
  · cases hg; exact h97
  · cases hg), tt_mo, fun _ _ h => (by cases h)⟩
noncomputable def b67 : Code := codeOf Tryz.f67
@[reducible] noncomputable def s67_7474 : Shape := ⟨[(0, .lf (.d (.sl .entry))), (3, .lf (.d (.int .i64))), (4, .lf (.ptr 4 0)), (8, .lf (.d (.sl .entry))), (9, .lf (.d (.int .i64))), (10, .lf (.d (.int .i64)))], [(4, .box [.d (.str), .d (.int .i64), .d (.int .i64), .d (.str)], .same)], 43⟩
@[reducible] noncomputable def t67_7474 : List OSh := [(.norm, ⟨[(0, .lf (.d (.sl .entry))), (8, .lf (.d (.sl .entry))), (9, .lf (.d (.int .i64))), (10, .lf (.d (.int .i64))), (15, .agg [.d (.str), .d (.int .i64), .d (.int .i64), .d (.str)]), (16, .lf (.d (.bool))), (17, .lf (.d (.bool))), (18, .lf (.d (.bool))), (32, .lf (.d (.bool))), (33, .lf (.d (.bool))), (41, .lf (.d (.bool)))], [], 43⟩)]
noncomputable def g67_7474 (y : s67_7474.Y) : Option (YS t67_7474) :=
(f96 (((y.2.1.1, (y.2.1.2.1, (y.2.1.2.2.1, (y.2.1.2.2.2.1, ())))), ()), ())).bind fun r1002 =>
  bif (!r1002.1.1) then
  some (((y.1.1, (y.1.2.2.2.1, (y.1.2.2.2.2.1, (y.1.2.2.2.2.2.1, ((y.2.1.1, (y.2.1.2.1, (y.2.1.2.2.1, (y.2.1.2.2.2.1, ())))), (r1002.1.1, ((!r1002.1.1), (true, (true, (true, (true, ()))))))))))), ()))
else
  bif (decide (y.1.2.1 > (0 : Int))) then
(ix y.1.1 (IntKind.i64.wrap (y.1.2.1 - (1 : Int)))).bind fun x1003 =>
  bif (!(Op.bytesLess x1003.path y.2.1.1)) then
  some (((y.1.1, (y.1.2.2.2.1, (y.1.2.2.2.2.1, (y.1.2.2.2.2.2.1, ((y.2.1.1, (y.2.1.2.1, (y.2.1.2.2.1, (y.2.1.2.2.2.1, ())))), (r1002.1.1, ((!r1002.1.1), (false, ((!(Op.bytesLess x1003.path y.2.1.1)), (true, (true, ()))))))))))), ()))
else
(subl y.1.1 (0 : Int) y.1.2.1).bind fun x1004 =>
(f97 ((x1004, (y.2.1.1, ())), ())).bind fun r1005 =>
  some (((y.1.1, (y.1.2.2.2.1, (y.1.2.2.2.2.1, (y.1.2.2.2.2.2.1, ((y.2.1.1, (y.2.1.2.1, (y.2.1.2.2.1, (y.2.1.2.2.2.1, ())))), (r1002.1.1, ((!r1002.1.1), (false, ((!(Op.bytesLess x1003.path y.2.1.1)), (false, ((!r1005.1.1), ()))))))))))), ()))
else
(subl y.1.1 (0 : Int) y.1.2.1).bind fun x1006 =>
(f97 ((x1006, (y.2.1.1, ())), ())).bind fun r1007 =>
  some (((y.1.1, (y.1.2.2.2.1, (y.1.2.2.2.2.1, (y.1.2.2.2.2.2.1, ((y.2.1.1, (y.2.1.2.1, (y.2.1.2.2.1, (y.2.1.2.2.2.1, ())))), (r1002.1.1, ((!r1002.1.1), (false, (false, (false, ((!r1007.1.1), ()))))))))))), ()))
theorem r67_7474 : ∀ y, g67_7474 y = pieceF (ctxWith c67 []) (codeAt (unloop (codeAt b67 1 58)) 116 7474) 7474 s67_7474 t67_7474 y := fun y => by kernel_rfl
theorem q67_7474 (H : CtxGood Tryz.prog c67) : FragOk Tryz.prog (codeAt (unloop (codeAt b67 1 58)) 116 7474) (fragOrc s67_7474 t67_7474 g67_7474) :=
  piece_at (fr := []) H (by kernel_rfl) frags_nil r67_7474
@[reducible] noncomputable def s67_58 : Shape := ⟨[(0, .lf (.d (.sl .entry))), (8, .lf (.d (.sl .entry))), (9, .lf (.d (.int .i64))), (10, .lf (.d (.int .i64)))], [], 43⟩
@[reducible] noncomputable def t67_58 : List OSh := [(.ret, ⟨[(2, .lf (.d (.bool)))], [], 43⟩), (.exit 0, ⟨[], [], 43⟩)]
noncomputable def g67_58 (y : s67_58.Y) : Option (Sum s67_58.Y (YS t67_58)) :=
  bif (decide (y.1.2.2.2.1 < y.1.2.2.1)) then
(ix y.1.2.1 y.1.2.2.2.1).bind fun x1010 =>
(g67_7474 ((y.1.1, (y.1.2.2.2.1, ((), (y.1.2.1, (y.1.2.2.1, (y.1.2.2.2.1, ())))))), ((x1010.path, (x1010.kind, (x1010.mode, (x1010.text, ())))), ()))).bind fun r1011 =>
  bif r1011.1.2.2.2.2.2.2.2.2.2.2.1 then
  some (.inr (.inl ((false, ()), ())))
else
  some (.inl ((r1011.1.1, (r1011.1.2.1, (r1011.1.2.2.1, ((IntKind.i64.wrap (r1011.1.2.2.2.1 + (1 : Int))), ())))), ()))
else
  some (.inr (.inr ((), ())))
theorem r67_58 : ∀ y, g67_58 y = roundF (ctxWith c67 [(7474, fragOrc s67_7474 t67_7474 g67_7474)]) (unloop (codeAt b67 1 58)) 58 s67_58 t67_58 y := fun y => by kernel_rfl
noncomputable def l67_58 : s67_58.Y → Option (YS t67_58) := loopF g67_58
theorem q67_58 (H : CtxGood Tryz.prog c67) : FragOk Tryz.prog (codeAt b67 1 58) (fragOrc s67_58 t67_58 l67_58) :=
  loop_at (fr := [(7474, fragOrc s67_7474 t67_7474 g67_7474)]) H (by kernel_rfl) (by kernel_rfl) ⟨q67_7474 H, trivial⟩ (fun y => iter_congr r67_58 y)
@[reducible] noncomputable def i67 : Shape := ⟨[(0, .lf (.d (.sl .entry)))], [], 43⟩
@[reducible] noncomputable def o67 : Shape := ⟨[(2, .lf (.d (.bool)))], [], 43⟩
noncomputable def f67 (a : i67.Y) : Option o67.Y :=
  bif (decide ((a.1.1.length : Int) > (16 : Int))) then
  some ((false, ()), ())
else
(l67_58 ((a.1.1, (a.1.1, ((a.1.1.length : Int), ((0 : Int), ())))), ())).bind fun r1012 =>
(match r1012 with
| .inl r1013 =>
  some ((r1013.1.1, ()), ())
| .inr r1014 =>
  some ((true, ()), ()))
theorem e67 : ∀ a, f67 a = bodyF (ctxWith c67 [(58, fragOrc s67_58 t67_58 l67_58)]) b67 i67 o67 a := fun a => by kernel_rfl
noncomputable def S67 : Summ := funSumm tt 43 i67 o67 [.tmp 2] f67
theorem z67 (h : ∀ T, (tt T).ok Tryz.prog T) (h96 : SummOk Tryz.prog 96 S96) (h97 : SummOk Tryz.prog 97 S97) : SummOk Tryz.prog 67 S67 :=
  have H := k67 h h96 h97
  fun_at (fn := Tryz.f67) (fr := [(58, fragOrc s67_58 t67_58 l67_58)]) H (by kernel_rfl) (by kernel_rfl) (by kernel_rfl) (by kernel_rfl) (by kernel_rfl) ⟨q67_58 H, trivial⟩ (fun y => ⟨_, rfl, rfl⟩) e67
end Go.Proofs

set_option maxRecDepth 100000
set_option linter.unusedVariables false
namespace Go.Proofs
open Go.Jk
-- 87 loop.example/jackstay/spec.TreeOk
noncomputable def c87 : Ctx := { tt := tt, fs := fun n => match n with | 113 => some S113 | 114 => some S114 | 115 => some S115 | _ => none }
theorem k87 (h : ∀ T, (tt T).ok Tryz.prog T) (h113 : SummOk Tryz.prog 113 S113) (h114 : SummOk Tryz.prog 114 S114) (h115 : SummOk Tryz.prog 115 S115) : CtxGood Tryz.prog c87 := ⟨⟨h⟩, fun g S hg => (by
  simp only [c87] at hg
  split at hg
  · cases hg; exact h113
  · cases hg; exact h114
  · cases hg; exact h115
  · cases hg), tt_mo, fun _ _ h => (by cases h)⟩
noncomputable def b87 : Code := codeOf Tryz.f87
@[reducible] noncomputable def s87_840 : Shape := ⟨[(0, .lf (.d (.sl .entry))), (3, .lf (.d (.int .i64)))], [], 53⟩
@[reducible] noncomputable def t87_840 : List OSh := [(.norm, ⟨[(0, .lf (.d (.sl .entry))), (3, .lf (.d (.int .i64))), (11, .lf (.d (.sl .entry))), (12, .lf (.d (.int .i64))), (13, .lf (.rptr [.str, .int .i64, .int .i64, .str] 0)), (14, .agg [.d (.str), .d (.int .i64), .d (.int .i64), .d (.str)]), (15, .lf (.d (.bool))), (16, .lf (.d (.bool))), (17, .lf (.d (.bool))), (34, .lf (.d (.bool)))], [], 53⟩)]
noncomputable def g87_840 (y : s87_840.Y) : Option (YS t87_840) :=
(ix y.1.1 y.1.2.1).bind fun x397 =>
(f113 (((x397.path, (x397.kind, (x397.mode, (x397.text, ())))), ()), ())).bind fun r398 =>
  bif (!r398.1.1) then
  some (((y.1.1, (y.1.2.1, (y.1.1, (y.1.2.1, ((x397.path, (x397.kind, (x397.mode, (x397.text, ())))), ((x397.path, (x397.kind, (x397.mode, (x397.text, ())))), (r398.1.1, ((!r398.1.1), (true, (true, ())))))))))), ()))
else
  bif (decide (y.1.2.1 > (0 : Int))) then
(ix y.1.1 (IntKind.i64.wrap (y.1.2.1 - (1 : Int)))).bind fun x399 =>
(ix y.1.1 y.1.2.1).bind fun x400 =>
  some (((y.1.1, (y.1.2.1, (y.1.1, (y.1.2.1, ((x397.path, (x397.kind, (x397.mode, (x397.text, ())))), ((x397.path, (x397.kind, (x397.mode, (x397.text, ())))), (r398.1.1, ((!r398.1.1), (false, ((!(Op.bytesLess x399.path x400.path)), ())))))))))), ()))
else
  some (((y.1.1, (y.1.2.1, (y.1.1, (y.1.2.1, ((x397.path, (x397.kind, (x397.mode, (x397.text, ())))), ((x397.path, (x397.kind, (x397.mode, (x397.text, ())))), (r398.1.1, ((!r398.1.1), (false, (false, ())))))))))), ()))
theorem r87_840 : ∀ y, g87_840 y = pieceF (ctxWith c87 []) (codeAt (unloop (codeAt b87 1 26)) 52 840) 840 s87_840 t87_840 y := fun y => by kernel_rfl
theorem q87_840 (H : CtxGood Tryz.prog c87) : FragOk Tryz.prog (codeAt (unloop (codeAt b87 1 26)) 52 840) (fragOrc s87_840 t87_840 g87_840) :=
  piece_at (fr := []) H (by kernel_rfl) frags_nil r87_840
@[reducible] noncomputable def s87_26 : Shape := ⟨[(0, .lf (.d (.sl .entry))), (3, .lf (.d (.int .i64)))], [], 53⟩
@[reducible] noncomputable def t87_26 : List OSh := [(.ret, ⟨[(2, .lf (.d (.bool)))], [], 53⟩), (.exit 0, ⟨[(0, .lf (.d (.sl .entry)))], [], 53⟩)]
noncomputable def g87_26 (y : s87_26.Y) : Option (Sum s87_26.Y (YS t87_26)) :=
  bif (decide (y.1.2.1 < (y.1.1.length : Int))) then
(g87_840 ((y.1.1, (y.1.2.1, ())), ())).bind fun r402 =>
  bif r402.1.2.2.2.2.2.2.2.2.2.1 then
  some (.inr (.inl ((false, ()), ())))
else
  some (.inl ((r402.1.1, ((IntKind.i64.wrap (r402.1.2.1 + (1 : Int))), ())), ()))
else
  some (.inr (.inr ((y.1.1, ()), ())))
theorem r87_26 : ∀ y, g87_26 y = roundF (ctxWith c87 [(840, fragOrc s87_840 t87_840 g87_840)]) (unloop (codeAt b87 1 26)) 26 s87_26 t87_26 y := fun y => by kernel_rfl
noncomputable def l87_26 : s87_26.Y → Option (YS t87_26) := loopF g87_26
theorem q87_26 (H : CtxGood Tryz.prog c87) : FragOk Tryz.prog (codeAt b87 1 26) (fragOrc s87_26 t87_26 l87_26) :=
  loop_at (fr := [(840, fragOrc s87_840 t87_840 g87_840)]) H (by kernel_rfl) (by kernel_rfl) ⟨q87_840 H, trivial⟩ (fun y => iter_congr r87_26 y)
@[reducible] noncomputable def s87_58 : Shape := ⟨[(0, .lf (.d (.sl .entry))), (4, .lf (.d (.int .i64)))], [], 53⟩
@[reducible] noncomputable def t87_58 : List OSh := [(.ret, ⟨[(2, .lf (.d (.bool)))], [], 53⟩), (.exit 2, ⟨[(0, .lf (.d (.sl .entry)))], [], 53⟩)]
noncomputable def g87_58 (y : s87_58.Y) : Option (Sum s87_58.Y (YS t87_58)) :=
  bif (decide (y.1.2.1 < (y.1.1.length : Int))) then
(ix y.1.1 y.1.2.1).bind fun x450 =>
(f115 ((x450.path, ()), ())).bind fun r451 =>
(f114 ((y.1.1, (r451.1.1, ())), ())).bind fun r452 =>
  bif (!r452.1.1) then
  some (.inr (.inl ((false, ()), ())))
else
  some (.inl ((y.1.1, ((IntKind.i64.wrap (y.1.2.1 + (1 : Int))), ())), ()))
else
  some (.inr (.inr ((y.1.1, ()), ())))
theorem r87_58 : ∀ y, g87_58 y = roundF (ctxWith c87 []) (unloop (codeAt b87 1 58)) 58 s87_58 t87_58 y := fun y => by kernel_rfl
noncomputable def l87_58 : s87_58.Y → Option (YS t87_58) := loopF g87_58
theorem q87_58 (H : CtxGood Tryz.prog c87) : FragOk Tryz.prog (codeAt b87 1 58) (fragOrc s87_58 t87_58 l87_58) :=
  loop_at (fr := []) H (by kernel_rfl) (by kernel_rfl) frags_nil (fun y => iter_congr r87_58 y)
@[reducible] noncomputable def i87 : Shape := ⟨[(0, .lf (.d (.sl .entry)))], [], 53⟩
@[reducible] noncomputable def o87 : Shape := ⟨[(2, .lf (.d (.bool)))], [], 53⟩
noncomputable def f87 (a : i87.Y) : Option o87.Y :=
(l87_26 ((a.1.1, ((0 : Int), ())), ())).bind fun r412 =>
(match r412 with
| .inl r413 =>
  some ((r413.1.1, ()), ())
| .inr r414 =>
(l87_58 ((r414.1.1, ((0 : Int), ())), ())).bind fun r456 =>
(match r456 with
| .inl r457 =>
  some ((r457.1.1, ()), ())
| .inr r458 =>
  some (((decide ((r458.1.1.length : Int) ≤ (16 : Int))), ()), ())))
theorem e87 : ∀ a, f87 a = bodyF (ctxWith c87 [(26, fragOrc s87_26 t87_26 l87_26), (58, fragOrc s87_58 t87_58 l87_58)]) b87 i87 o87 a := fun a => by kernel_rfl
noncomputable def S87 : Summ := funSumm tt 53 i87 o87 [.tmp 2] f87
theorem z87 (h : ∀ T, (tt T).ok Tryz.prog T) (h113 : SummOk Tryz.prog 113 S113) (h114 : SummOk Tryz.prog 114 S114) (h115 : SummOk Tryz.prog 115 S115) : SummOk Tryz.prog 87 S87 :=
  have H := k87 h h113 h114 h115
  fun_at (fn := Tryz.f87) (fr := [(26, fragOrc s87_26 t87_26 l87_26), (58, fragOrc s87_58 t87_58 l87_58)]) H (by kernel_rfl) (by kernel_rfl) (by kernel_rfl) (by kernel_rfl) (by kernel_rfl) ⟨q87_26 H, q87_58 H, trivial⟩ (fun y => ⟨_, rfl, rfl⟩) e87
end Go.Proofs

set_option maxRecDepth 100000
set_option linter.unusedVariables false
set_option linter.unusedSimpArgs false
namespace Go.Proofs
open Go.Jk

theorem allI_congr' {α : Type} {ok ok' : Nat → α → Bool} : ∀ (xs : List α) (j : Nat), (∀ i x, xs[i]? = some x → ok (j + i) x = ok' (j + i) x) → allI ok j xs = allI ok' j xs := by
  intro xs
  induction xs with
  | nil => intro j _; rfl
  | cons x r ih =>
    intro j h
    simp only [allI]
    rw [show ok j x = ok' j x from h 0 x rfl, ih (j + 1) (fun i y hy => by have := h (i + 1) y (by simpa using hy); rw [show j + (i + 1) = j + 1 + i by omega] at this; exact this)]
theorem allI_get {α : Type} {ok : Nat → α → Bool} : ∀ (xs : List α) (j : Nat), allI ok j xs = true → ∀ i x, xs[i]? = some x → ok (j + i) x = true := by
  intro xs
  induction xs with
  | nil => intro j _ i x h; simp at h
  | cons y r ih =>
    intro j h i x hx
    simp only [allI, Bool.and_eq_true] at h
    cases i with
    | zero => simp only [List.getElem?_cons_zero, Option.some.injEq] at hx; subst hx; exact h.1
    | succ i => have := ih (j + 1) h.2 i x (by simpa using hx); rwa [show j + 1 + i = j + (i + 1) by omega] at this

/- Trees. -/
abbrev BdEs (t : List Entry) : Prop := Bd t.length ∧ ∀ e, e ∈ t → BdE e
def lessAt (t : List Entry) (i : Nat) (e : Entry) : Bool := i == 0 || match t[i - 1]? with
  | some q => Op.bytesLess q.path e.path
  | none => false
def okAt (t : List Entry) (i : Nat) (e : Entry) : Bool := entOk e && lessAt t i e
def treeOk (t : List Entry) : Bool := allI (okAt t) 0 t && t.all (fun e => dirIn t (upL e.path)) && decide (t.length ≤ 16)

theorem dgt0 (i : Nat) : decide ((i : Int) > 0) = !(i == 0) := by
  cases i with
  | zero => rfl
  | succ i => simp

theorem v_TreeOk (a) (hs : BdEs a.1.1) : f87 a = some ((treeOk a.1.1, ()), ()) := by
  obtain ⟨⟨t, u⟩, u'⟩ := a
  obtain ⟨hl, he⟩ := hs
  have hl : t.length ≤ 2097152 := hl
  have key : l87_26 ((t, ((0 : Int), ())), ()) = some (bif allI (okAt t) 0 t then .inr ((t, ()), ()) else .inl ((false, ()), ())) := by
    refine loop_all g87_26 t (fun i => ((t, ((i : Int), ())), ())) _ _ _ (fun i x hx => ?_) ?_
    · have hi := get_lt hx
      have hw : Sm i := by unfold Sm; omega
      have hb := he x (List.mem_of_getElem? hx)
      simp only [g87_26, lt_dec hi, cond_true, g87_840, ix_nat, hx, Option.bind_some]
      rw [v_l2Entry _ hb.1 hb.2]
      simp only [Option.bind_some, okAt, dgt0]
      cases entOk x with
      | false => rfl
      | true =>
        simp only [Bool.not_true, cond_false, Bool.true_and, lessAt]
        cases i with
        | zero => simp only [beq_self_eq_true, Bool.not_true, cond_false, Option.bind_some, Bool.true_or, cond_true, wrap_add1 hw]
        | succ i =>
          have h0 : (i + 1 == 0) = false := rfl
          have hi' : i < t.length := by omega
          obtain ⟨q, hq⟩ : ∃ q, t[i]? = some q := ⟨t[i], List.getElem?_eq_getElem hi'⟩
          simp only [h0, Bool.not_false, cond_true, wrap_sub1 (i := i) (by unfold Sm; omega), ix_nat, hq, hx, Option.bind_some, Bool.false_or, Nat.add_sub_cancel]
          cases Op.bytesLess q.path x.path with
          | false => rfl
          | true => simp only [Bool.not_true, cond_false, cond_true, wrap_add1 hw]
    · simp only [g87_26, nlt_dec, cond_false]
  have key2 : l87_58 ((t, ((0 : Int), ())), ()) = some (bif allI (fun _ e => dirIn t (upL e.path)) 0 t then .inr ((t, ()), ()) else .inl ((false, ()), ())) := by
    refine loop_all g87_58 t (fun i => ((t, ((i : Int), ())), ())) _ _ _ (fun i x hx => ?_) ?_
    · have hi := get_lt hx
      have hw : Sm i := by unfold Sm; omega
      have hb := he x (List.mem_of_getElem? hx)
      simp only [g87_58, lt_dec hi, cond_true, ix_nat, hx, Option.bind_some]
      rw [v_l1Up _ hb.1]
      simp only [Option.bind_some]
      rw [v_l2Dir _ hl]
      simp only [Option.bind_some, wrap_add1 hw]
      cases dirIn t (upL x.path) <;> rfl
    · simp only [g87_58, nlt_dec, cond_false]
  rw [allI_all] at key2
  simp only [f87, key, Option.bind_some, treeOk]
  cases allI (okAt t) 0 t with
  | false => rfl
  | true =>
    simp only [cond_true, key2, Option.bind_some, Bool.true_and]
    cases List.all t (fun e => dirIn t (upL e.path)) with
    | false => rfl
    | true => have := leb6 t.length 16; simp only [cond_true, Bool.true_and]; rw [← this]; rfl

/-- Ascending, step by step. -/
theorem asc_step {t : List Entry} {i : Nat} {e : Entry} (he : t[i]? = some e) (h : Asc (t.take i)) (hl : lessAt t i e = true) : Asc (t.take (i + 1)) := by
  rw [List.take_add_one, he]
  unfold Asc
  refine List.pairwise_append.2 ⟨h, by simp, ?_⟩
  intro a ha b hb
  have hb : b = e := by simpa using hb
  subst hb
  obtain ⟨k, hk⟩ := List.mem_iff_getElem?.1 ha
  have hki : k < i := by
    have := get_lt hk
    rw [List.length_take] at this; omega
  unfold lessAt at hl
  have h0 : (i == 0) = false := by simp; omega
  rw [h0, Bool.false_or] at hl
  split at hl
  · rename_i q hq
    by_cases hkl : k = i - 1
    · have : t[k]? = some a := by rw [List.getElem?_take, if_pos hki] at hk; exact hk
      rw [hkl, hq] at this
      cases this; exact hl
    · have hq' : (t.take i)[i - 1]? = some q := by rw [List.getElem?_take, if_pos (by omega)]; exact hq
      have := List.pairwise_iff_getElem.1 h k (i - 1) (get_lt hk) (get_lt hq') (by omega)
      rw [(List.getElem?_eq_some_iff.1 hk).2, (List.getElem?_eq_some_iff.1 hq').2] at this
      exact bl_trans _ _ _ this hl
  · cases hl

theorem asc_of {t : List Entry} (h : allI (okAt t) 0 t = true) : Asc t := by
  have : ∀ i, i ≤ t.length → Asc (t.take i) := by
    intro i
    induction i with
    | zero => intro _; simp [Asc]
    | succ i ih =>
      intro hi
      have he : t[i]? = some t[i] := List.getElem?_eq_getElem hi
      have := allI_get t 0 h i _ he
      rw [Nat.zero_add] at this
      simp only [okAt, Bool.and_eq_true] at this
      exact asc_step he (ih (by omega)) this.2
  have := this t.length (Nat.le_refl _)
  rwa [List.take_length] at this

/-- A text that comes ahead of the i-th path is sought in the first i entries. -/
theorem dirIn_take {t : List Entry} {i : Nat} {e : Entry} {p : Str} (ha : Asc t) (he : t[i]? = some e) (hp : Op.bytesLess p e.path = true) : dirIn (t.take i) p = dirIn t p := by
  have hi := get_lt he
  have h1 := pos_spec (p := p) ha i e he
  rw [bl_asym hp] at h1
  have hle : posL t p ≤ i := by
    have : ¬ i < posL t p := by simpa using h1.symm
    omega
  have hpos : posL (t.take i) p = posL t p := by
    by_cases hlt : posL t p = i
    · have hlen : (t.take i).length = i := by rw [List.length_take]; omega
      have h2 := posL_le (t.take i) p
      rw [hlen] at h2
      by_cases h3 : posL (t.take i) p < i
      · obtain ⟨q, hq⟩ : ∃ q, (t.take i)[posL (t.take i) p]? = some q := ⟨_, List.getElem?_eq_getElem (by rw [hlen]; exact h3)⟩
        have h4 := pos_spec (p := p) (ha.take i) _ q hq
        have hq' : t[posL (t.take i) p]? = some q := by rw [List.getElem?_take, if_pos h3] at hq; exact hq
        have h5 := pos_spec (p := p) ha _ q hq'
        rw [h4] at h5
        have : decide (posL (t.take i) p < posL (t.take i) p) = false := by simp
        rw [this] at h5
        have : ¬ posL (t.take i) p < posL t p := by simpa using h5.symm
        omega
      · omega
    · have hlt : posL t p < i := by omega
      obtain ⟨q, hq⟩ : ∃ q, t[posL t p]? = some q := ⟨_, List.getElem?_eq_getElem (by omega)⟩
      have hq' : (t.take i)[posL t p]? = some q := by rw [List.getElem?_take, if_pos hlt]; exact hq
      have h4 := pos_spec (p := p) ha _ q hq
      have h5 := pos_spec (p := p) (ha.take i) _ q hq'
      have e4 : decide (posL t p < posL t p) = false := by simp
      rw [h4, e4] at h5
      have h6 : ¬ posL t p < posL (t.take i) p := by simpa using h5.symm
      by_cases h7 : posL (t.take i) p < posL t p
      · obtain ⟨r, hr⟩ : ∃ r, t[posL (t.take i) p]? = some r := ⟨_, List.getElem?_eq_getElem (by omega)⟩
        have hr' : (t.take i)[posL (t.take i) p]? = some r := by rw [List.getElem?_take, if_pos (by omega)]; exact hr
        have h8 := pos_spec (p := p) ha _ r hr
        have h9 := pos_spec (p := p) (ha.take i) _ r hr'
        have e9 : decide (posL (t.take i) p < posL (t.take i) p) = false := by simp
        rw [h8, e9] at h9
        have : ¬ posL (t.take i) p < posL t p := by simpa using h9
        omega
      · omega
  unfold dirIn
  rw [hpos]
  congr 1
  by_cases hlt : posL t p < i
  · rw [List.getElem?_take, if_pos hlt]
  · have : posL t p = i := by omega
    rw [this, he, List.getElem?_take, if_neg (by omega)]
    have : (e.path == p) = false := by
      cases h : (e.path == p) with
      | false => rfl
      | true => rw [eq_of_beq h, bl_irr] at hp; cases hp
    simp [this]

def placeB (t : List Entry) (p : Str) : Bool := dirIn t (bif pathOk p then upL p else [])
theorem v_hasPlaceFor (a) (hs : Bd a.1.1.length) (hp : Bd a.1.2.1.length) (ha : Asc a.1.1) : f97 a = some ((placeB a.1.1 a.1.2.1, ()), ()) := by
  obtain ⟨⟨t, p, u⟩, u'⟩ := a
  have e1 := v_PathUp ((p, ()), ()) hp
  have e2 := v_findEntry ((t, ((bif pathOk p then upL p else []), ())), ()) hs ha
  simp only [f97, e1, e2, Option.bind_some, placeB, dirIn, hasAt, ix_nat]
  generalize (bif pathOk p then upL p else []) = up
  cases (up == []) with
  | true => rfl
  | false =>
    cases ht : t[posL t up]? with
    | none => rfl
    | some e => simp only [cond_false, cond_true, Option.bind_some, Bool.false_or]; cases (e.path == up) <;> rfl

theorem treeOk_eq (t : List Entry) : treeOk t = (decide (t.length ≤ 16) && allI (fun i e => okAt t i e && placeB (t.take i) e.path) 0 t) := by
  unfold treeOk
  rw [allI_and]
  cases h : allI (okAt t) 0 t with
  | false => simp
  | true =>
    have ha := asc_of h
    have : allI (fun i e => placeB (t.take i) e.path) 0 t = t.all (fun e => dirIn t (upL e.path)) := by
      rw [← allI_all _ 0 t]
      refine allI_congr' t 0 (fun i e he => ?_)
      rw [Nat.zero_add]
      have hok := allI_get t 0 h i e he
      rw [Nat.zero_add] at hok
      have hpo : pathOk e.path = true := by
        unfold okAt entOk at hok
        simp only [Bool.and_eq_true] at hok
        exact hok.1.1
      unfold placeB
      rw [hpo, cond_true]
      cases hu : (upL e.path == []) with
      | true => unfold dirIn; rw [hu]; rfl
      | false => exact dirIn_take ha he (upL_less hu)
    rw [this]; simp only [Bool.true_and]; rw [Bool.and_comm]

theorem v_iTreeOk (a) (hs : BdEs a.1.1) : f67 a = some ((treeOk a.1.1, ()), ()) := by
  obtain ⟨⟨t, u⟩, u'⟩ := a
  obtain ⟨hl, he⟩ := hs
  have hl : t.length ≤ 2097152 := hl
  have key : l67_58 ((t, (t, ((t.length : Int), ((0 : Int), ())))), ()) = some (bif allI (fun i e => okAt t i e && placeB (t.take i) e.path) 0 t then .inr ((), ()) else .inl ((false, ()), ())) := by
    have := loop_inv g67_58 t (fun i (_ : Unit) => ((t, (t, ((t.length : Int), ((i : Int), ())))), ())) (fun i e _ => some (bif okAt t i e && placeB (t.take i) e.path then .inl () else .inr ((.inl ((false, ()), ())) : YS t67_58))) (fun _ => (.inr ((), ()) : YS t67_58))
      (fun i _ => Asc (t.take i)) () (by simp [Asc]) (fun i x _ hx hI => ?_) (fun _ _ => ?_)
    · exact this.trans (foldB_guard (fun i e => okAt t i e && placeB (t.take i) e.path) (fun _ s => s) _ _ t 0 ())
    · have hi := get_lt hx
      have hw : Sm i := by unfold Sm; omega
      have hb := he x (List.mem_of_getElem? hx)
      refine ⟨?_, fun s' h' => ?_⟩
      · have hpl := v_hasPlaceFor ((t.take i, (x.path, ())), ()) (show (t.take i).length ≤ 2097152 by rw [List.length_take]; omega) hb.1 hI
        simp only [g67_58, lt_dec hi, cond_true, ix_nat, hx, Option.bind_some, g67_7474]
        rw [v_entryOk _ hb.1 hb.2]
        simp only [Option.bind_some, okAt, dgt0]
        cases entOk x with
        | false => rfl
        | true =>
          simp only [Bool.not_true, cond_false, Bool.true_and, lessAt]
          cases i with
          | zero =>
            have hsub : subl t 0 0 = some (t.take 0) := subl_to (b := 0) (Nat.zero_le _)
            have hsub : subl t 0 ((0 : Nat) : Int) = some (t.take 0) := hsub
            simp only [beq_self_eq_true, Bool.not_true, cond_false, hsub, Option.bind_some, hpl, Bool.true_or, Bool.true_and]
            cases placeB (t.take 0) x.path with
            | false => rfl
            | true => simp only [Bool.not_true, cond_false, cond_true, wrap_add1 hw]; rfl
          | succ i =>
            have h0 : (i + 1 == 0) = false := rfl
            have hi' : i < t.length := by omega
            obtain ⟨q, hq⟩ : ∃ q, t[i]? = some q := ⟨t[i], List.getElem?_eq_getElem hi'⟩
            have hsub : subl t 0 ((i + 1 : Nat) : Int) = some (t.take (i + 1)) := subl_to (by omega)
            simp only [h0, Bool.not_false, cond_true, wrap_sub1 (i := i) (by unfold Sm; omega), ix_nat, hq, hx, Option.bind_some, Bool.false_or, Nat.add_sub_cancel]
            cases Op.bytesLess q.path x.path with
            | false => rfl
            | true =>
              simp only [Bool.not_true, cond_false, cond_true, hsub, Option.bind_some, hpl, Bool.true_and]
              cases placeB (t.take (i + 1)) x.path with
              | false => rfl
              | true => simp only [Bool.not_true, cond_false, cond_true, wrap_add1 hw]; rfl
      · simp only [Option.some.injEq] at h'
        cases hq : (okAt t i x && placeB (t.take i) x.path) with
        | false => rw [hq] at h'; cases h'
        | true =>
          simp only [Bool.and_eq_true] at hq
          have := hq.1
          simp only [okAt, Bool.and_eq_true] at this
          exact asc_step hx hI this.2
    · simp only [g67_58, nlt_dec, cond_false]
  have h16 : decide ((t.length : Int) > 16) = !decide (t.length ≤ 16) := by by_cases h : t.length ≤ 16 <;> simp only [h, decide_true, decide_false, Bool.not_true, Bool.not_false, decide_eq_true_eq, decide_eq_false_iff_not] <;> omega
  simp only [f67, h16, key, Option.bind_some]
  rw [treeOk_eq]
  cases decide (t.length ≤ 16) <;> cases allI (fun i e => okAt t i e && placeB (t.take i) e.path) 0 t <;> rfl
end Go.Proofs

set_option maxRecDepth 100000
set_option linter.unusedVariables false
namespace Go.Proofs
open Go.Jk
-- 100 loop.example/jackstay/spec.l2Copy
noncomputable def c100 : Ctx := { tt := tt, fs := fun n => match n with | _ => none }
theorem k100 (h : ∀ T, (tt T).ok Tryz.prog T) : CtxGood Tryz.prog c100 := ⟨⟨h⟩, fun g S hg => (by cases hg), tt_mo, fun _ _ h => (by cases h)⟩
noncomputable def b100 : Code := codeOf Tryz.f100
@[reducible] noncomputable def i100 : Shape := ⟨[(0, .lf (.d (.sl .entry)))], [], 6⟩
@[reducible] noncomputable def o100 : Shape := ⟨[(2, .lf (.own 3000128))], [(3000128, .row .entry, .slot 2 0)], 6⟩
noncomputable def f100 (a : i100.Y) : Option o100.Y :=
(apd 48 ([] : List Entry) a.1.1).bind fun x485 =>
  some (((), ()), (x485, ()))
theorem e100 : ∀ a, f100 a = bodyF (ctxWith c100 []) b100 i100 o100 a := fun a => by kernel_rfl
noncomputable def S100 : Summ := funSumm tt 6 i100 o100 [.tmp 2] f100
theorem z100 (h : ∀ T, (tt T).ok Tryz.prog T) : SummOk Tryz.prog 100 S100 :=
  have H := k100 h
  fun_at (fn := Tryz.f100) (fr := []) H (by kernel_rfl) (by kernel_rfl) (by kernel_rfl) (by kernel_rfl) (by kernel_rfl) frags_nil (fun y => ⟨_, rfl, rfl⟩) e100
end Go.Proofs

set_option maxRecDepth 100000
set_option linter.unusedVariables false
namespace Go.Proofs
open Go.Jk
-- 50 loop.example/jackstay/impl.PackOk
noncomputable def c50 : Ctx := { tt := tt, fs := fun n => match n with | 67 => some S67 | 77 => some S77 | 78 => some S78 | 79 => some S79v0 | 81 => some S81v0 | _ => none }
theorem k50 (h : ∀ T, (tt T).ok Tryz.prog T) (h67 : SummOk Tryz.prog 67 S67) (h77 : SummOk Tryz.prog 77 S77) (h78 : SummOk Tryz.prog 78 S78) (h79v0 : SummOk Tryz.prog 79 S79v0) (h81v0 : SummOk Tryz.prog 81 S81v0) : CtxGood Tryz.prog c50 := ⟨⟨h⟩, fun g S hg => (by
  simp only [c50] at hg
  split at hg
  · cases hg; exact h67
  · cases hg; exact h77
  · cases hg; exact h78
  · cases hg; exact h79v0
  · cases hg; exact h81v0
  · cases hg), tt_mo, fun _ _ h => (by cases h)⟩
noncomputable def b50 : Code := codeOf Tryz.f50
@[reducible] noncomputable def s50_12 : Shape := ⟨[(1, .lf (.ptr 1 0))], [(1, .box [.d (.str), .d (.str), .d (.sl .need), .d (.sl .entry)], .same)], 36⟩
@[reducible] noncomputable def t50_12 : List OSh := [(.norm, ⟨[(1, .lf (.ptr 1 0)), (18, .lf (.d (.bool)))], [(1, .box [.d (.str), .d (.str), .d (.sl .need), .d (.sl .entry)], .same)], 36⟩)]
noncomputable def g50_12 (y : s50_12.Y) : Option (YS t50_12) :=
(f77 ((y.2.1.1, ()), ())).bind fun r784 =>
  bif (!(!r784.1.1)) then
(f78 ((y.2.1.2.1, ()), ())).bind fun r785 =>
  bif (!(!r785.1.1)) then
  some ((((), ((decide ((y.2.1.2.2.1.length : Int) > (6 : Int))), ())), ((y.2.1.1, (y.2.1.2.1, (y.2.1.2.2.1, (y.2.1.2.2.2.1, ())))), ())))
else
  some ((((), (true, ())), ((y.2.1.1, (y.2.1.2.1, (y.2.1.2.2.1, (y.2.1.2.2.2.1, ())))), ())))
else
  some ((((), (true, ())), ((y.2.1.1, (y.2.1.2.1, (y.2.1.2.2.1, (y.2.1.2.2.2.1, ())))), ())))
theorem r50_12 : ∀ y, g50_12 y = pieceF (ctxWith c50 []) (codeAt b50 1 12) 12 s50_12 t50_12 y := fun y => by kernel_rfl
theorem q50_12 (H : CtxGood Tryz.prog c50) : FragOk Tryz.prog (codeAt b50 1 12) (fragOrc s50_12 t50_12 g50_12) :=
  piece_at (fr := []) H (by kernel_rfl) frags_nil r50_12
@[reducible] noncomputable def i50 : Shape := ⟨[(0, .agg [.d (.str), .d (.str), .d (.sl .need), .d (.sl .entry)])], [], 36⟩
@[reducible] noncomputable def o50 : Shape := ⟨[(2, .lf (.d (.bool)))], [], 36⟩
noncomputable def f50 (a : i50.Y) : Option o50.Y :=
(g50_12 (((), ()), ((a.1.1.1, (a.1.1.2.1, (a.1.1.2.2.1, (a.1.1.2.2.2.1, ())))), ()))).bind fun r1017 =>
  bif r1017.1.2.1 then
  some ((false, ()), ())
else
(f79v0 ((r1017.2.1.2.2.1, ((), ())), ())).bind fun r1018 =>
  bif r1018.1.1 then
(f81v0 ((r1017.2.1.2.2.1, ((), (([r1017.2.1.1] : List Str), ()))), ())).bind fun r1019 =>
  bif (!r1019.1.1) then
(f67 ((r1017.2.1.2.2.2.1, ()), ())).bind fun r1020 =>
  some ((r1020.1.1, ()), ())
else
  some ((false, ()), ())
else
  some ((false, ()), ())
theorem e50 : ∀ a, f50 a = bodyF (ctxWith c50 [(12, fragOrc s50_12 t50_12 g50_12)]) b50 i50 o50 a := fun a => by kernel_rfl
noncomputable def S50 : Summ := funSumm tt 36 i50 o50 [.tmp 2] f50
theorem z50 (h : ∀ T, (tt T).ok Tryz.prog T) (h67 : SummOk Tryz.prog 67 S67) (h77 : SummOk Tryz.prog 77 S77) (h78 : SummOk Tryz.prog 78 S78) (h79v0 : SummOk Tryz.prog 79 S79v0) (h81v0 : SummOk Tryz.prog 81 S81v0) : SummOk Tryz.prog 50 S50 :=
  have H := k50 h h67 h77 h78 h79v0 h81v0
  fun_at (fn := Tryz.f50) (fr := [(12, fragOrc s50_12 t50_12 g50_12)]) H (by kernel_rfl) (by kernel_rfl) (by kernel_rfl) (by kernel_rfl) (by kernel_rfl) ⟨q50_12 H, trivial⟩ (fun y => ⟨_, rfl, rfl⟩) e50
end Go.Proofs

set_option maxRecDepth 100000
set_option linter.unusedVariables false
namespace Go.Proofs
open Go.Jk
-- 49v0 loop.example/jackstay/impl.all[loop.example/jackstay/impl.Pack]
noncomputable def c49v0 : Ctx := { tt := tt, fs := fun n => match n with | 50 => some S50 | _ => none }
theorem k49v0 (h : ∀ T, (tt T).ok Tryz.prog T) (h50 : SummOk Tryz.prog 50 S50) : CtxGood Tryz.prog c49v0 := ⟨⟨h⟩, fun g S hg => (by
  simp only [c49v0] at hg
  split at hg
  · cases hg; exact h50
  · cases hg), tt_mo, fun _ _ h => (by cases h)⟩
noncomputable def b49v0 : Code := codeOf Tryz.f49
@[reducible] noncomputable def s49v0_26 : Shape := ⟨[(1, .lf (.fn 50 [])), (7, .lf (.d (.sl .pack))), (8, .lf (.d (.int .i64))), (9, .lf (.d (.int .i64)))], [], 18⟩
@[reducible] noncomputable def t49v0_26 : List OSh := [(.ret, ⟨[(4, .lf (.d (.bool)))], [], 18⟩), (.exit 0, ⟨[], [], 18⟩)]
noncomputable def g49v0_26 (y : s49v0_26.Y) : Option (Sum s49v0_26.Y (YS t49v0_26)) :=
  bif (decide (y.1.2.2.2.1 < y.1.2.2.1)) then
(ix y.1.2.1 y.1.2.2.2.1).bind fun x1024 =>
(f50 (((x1024.name, (x1024.version, (x1024.needs, (x1024.tree, ())))), ()), ())).bind fun r1026 =>
  bif (!r1026.1.1) then
  some (.inr (.inl ((false, ()), ())))
else
  some (.inl (((), (y.1.2.1, (y.1.2.2.1, ((IntKind.i64.wrap (y.1.2.2.2.1 + (1 : Int))), ())))), ()))
else
  some (.inr (.inr ((), ())))
theorem r49v0_26 : ∀ y, g49v0_26 y = roundF (ctxWith c49v0 []) (unloop (codeAt b49v0 1 26)) 26 s49v0_26 t49v0_26 y := fun y => by kernel_rfl
noncomputable def l49v0_26 : s49v0_26.Y → Option (YS t49v0_26) := loopF g49v0_26
theorem q49v0_26 (H : CtxGood Tryz.prog c49v0) : FragOk Tryz.prog (codeAt b49v0 1 26) (fragOrc s49v0_26 t49v0_26 l49v0_26) :=
  loop_at (fr := []) H (by kernel_rfl) (by kernel_rfl) frags_nil (fun y => iter_congr r49v0_26 y)
@[reducible] noncomputable def i49v0 : Shape := ⟨[(0, .lf (.d (.sl .pack))), (1, .lf (.fn 50 []))], [], 18⟩
@[reducible] noncomputable def o49v0 : Shape := ⟨[(4, .lf (.d (.bool)))], [], 18⟩
noncomputable def f49v0 (a : i49v0.Y) : Option o49v0.Y :=
(l49v0_26 (((), (a.1.1, ((a.1.1.length : Int), ((0 : Int), ())))), ())).bind fun r1030 =>
(match r1030 with
| .inl r1031 =>
  some ((r1031.1.1, ()), ())
| .inr r1032 =>
  some ((true, ()), ()))
theorem e49v0 : ∀ a, f49v0 a = bodyF (ctxWith c49v0 [(26, fragOrc s49v0_26 t49v0_26 l49v0_26)]) b49v0 i49v0 o49v0 a := fun a => by kernel_rfl
noncomputable def S49v0 : Summ := funSumm tt 18 i49v0 o49v0 [.tmp 4] f49v0
theorem z49v0 (h : ∀ T, (tt T).ok Tryz.prog T) (h50 : SummOk Tryz.prog 50 S50) : SummOk Tryz.prog 49 S49v0 :=
  have H := k49v0 h h50
  fun_at (fn := Tryz.f49) (fr := [(26, fragOrc s49v0_26 t49v0_26 l49v0_26)]) H (by kernel_rfl) (by kernel_rfl) (by kernel_rfl) (by kernel_rfl) (by kernel_rfl) ⟨q49v0_26 H, trivial⟩ (fun y => ⟨_, rfl, rfl⟩) e49v0
end Go.Proofs

set_option maxRecDepth 100000
set_option linter.unusedVariables false
namespace Go.Proofs
open Go.Jk
-- 52 loop.example/jackstay/spec.PackOk
noncomputable def c52 : Ctx := { tt := tt, fs := fun n => match n with | 84 => some S84 | 85 => some S85 | 86 => some S86 | 87 => some S87 | _ => none }
theorem k52 (h : ∀ T, (tt T).ok Tryz.prog T) (h84 : SummOk Tryz.prog 84 S84) (h85 : SummOk Tryz.prog 85 S85) (h86 : SummOk Tryz.prog 86 S86) (h87 : SummOk Tryz.prog 87 S87) : CtxGood Tryz.prog c52 := ⟨⟨h⟩, fun g S hg => (by
  simp only [c52] at hg
  split at hg
  · cases hg; exact h84
  · cases hg; exact h85
  · cases hg; exact h86
  · cases hg; exact h87
  · cases hg), tt_mo, fun _ _ h => (by cases h)⟩
noncomputable def b52 : Code := codeOf Tryz.f52
@[reducible] noncomputable def i52 : Shape := ⟨[(0, .agg [.d (.str), .d (.str), .d (.sl .need), .d (.sl .entry)])], [], 23⟩
@[reducible] noncomputable def o52 : Shape := ⟨[(2, .lf (.d (.bool)))], [], 23⟩
noncomputable def f52 (a : i52.Y) : Option o52.Y :=
(f84 ((a.1.1.1, ()), ())).bind fun r460 =>
  bif r460.1.1 then
(f85 ((a.1.1.2.1, ()), ())).bind fun r461 =>
  bif r461.1.1 then
(f86 ((a.1.1.1, (a.1.1.2.2.1, ())), ())).bind fun r462 =>
  bif r462.1.1 then
(f87 ((a.1.1.2.2.2.1, ()), ())).bind fun r463 =>
  some ((r463.1.1, ()), ())
else
  some ((false, ()), ())
else
  some ((false, ()), ())
else
  some ((false, ()), ())
theorem e52 : ∀ a, f52 a = bodyF (ctxWith c52 []) b52 i52 o52 a := fun a => by kernel_rfl
noncomputable def S52 : Summ := funSumm tt 23 i52 o52 [.tmp 2] f52
theorem z52 (h : ∀ T, (tt T).ok Tryz.prog T) (h84 : SummOk Tryz.prog 84 S84) (h85 : SummOk Tryz.prog 85 S85) (h86 : SummOk Tryz.prog 86 S86) (h87 : SummOk Tryz.prog 87 S87) : SummOk Tryz.prog 52 S52 :=
  have H := k52 h h84 h85 h86 h87
  fun_at (fn := Tryz.f52) (fr := []) H (by kernel_rfl) (by kernel_rfl) (by kernel_rfl) (by kernel_rfl) (by kernel_rfl) frags_nil (fun y => ⟨_, rfl, rfl⟩) e52
end Go.Proofs
