import Derived.Test.YtmkgfgdipkagbaaProg
import Derived.Test.YtmkgfgdipkagbaaPgc
import Derived.KernelRfl
/-
  The table of types of this seat's program, as the calculus asks it.
-/
namespace Go.Proofs.Ytmkgfgdipkagbaa
open Go Go.Pv
def tyL : List (Nat × TI) := [
  (1, ⟨.other, 1, 8, .nilf, [none]⟩),
  (2, ⟨.int .i64, 1, 8, .int .i64 0, [none]⟩),
  (3, ⟨.int .i64, 1, 8, .int .i64 0, [none]⟩),
  (4, ⟨.bool, 1, 1, .bool false, [none]⟩),
  (5, ⟨.int .u8, 1, 1, .int .u8 0, [none]⟩),
  (6, ⟨.int .u8, 1, 1, .int .u8 0, [none]⟩),
  (9, ⟨.str, 1, 16, .str ByteArray.empty, [none]⟩),
  (12, ⟨.int .u64, 1, 8, .int .u64 0, [none]⟩),
  (21, ⟨.int .i32, 1, 4, .int .i32 0, [none]⟩),
  (22, ⟨.slice 3, 1, 24, .nil (.ints .i64 []), [some (.ints .i64 [])]⟩),
  (23, ⟨.struct [(5, 0), (5, 1), (3, 2), (22, 3)], 4, 40, .agg [.int .u8 0, .int .u8 0, .int .i64 0, .nil (.ints .i64 [])], [none, none, none, some (.ints .i64 [])]⟩),
  (24, ⟨.struct [(5, 0), (5, 1), (3, 2), (22, 3)], 4, 40, .agg [.int .u8 0, .int .u8 0, .int .i64 0, .nil (.ints .i64 [])], [none, none, none, some (.ints .i64 [])]⟩),
  (25, ⟨.slice 36, 1, 24, .nil (.rows 1 []), [some (.rows 1 [])]⟩),
  (26, ⟨.slice 22, 1, 24, .nil (.rows 1 []), [some (.rows 1 [])]⟩),
  (27, ⟨.slice 33, 1, 24, .nil (.rows 1 []), [some (.rows 1 [])]⟩),
  (28, ⟨.struct [(3, 0), (24, 1), (25, 5), (26, 6), (27, 7), (22, 8)], 9, 144, .agg [.int .i64 0, .int .u8 0, .int .u8 0, .int .i64 0, .nil (.ints .i64 []), .nil (.rows 1 []), .nil (.rows 1 []), .nil (.rows 1 []), .nil (.ints .i64 [])], [none, none, none, none, some (.ints .i64 []), some (.rows 1 []), some (.rows 1 []), some (.rows 1 []), some (.ints .i64 [])]⟩),
  (29, ⟨.struct [(3, 0), (24, 1), (25, 5), (26, 6), (27, 7), (22, 8)], 9, 144, .agg [.int .i64 0, .int .u8 0, .int .u8 0, .int .i64 0, .nil (.ints .i64 []), .nil (.rows 1 []), .nil (.rows 1 []), .nil (.rows 1 []), .nil (.ints .i64 [])], [none, none, none, none, some (.ints .i64 []), some (.rows 1 []), some (.rows 1 []), some (.rows 1 []), some (.ints .i64 [])]⟩),
  (30, ⟨.other, 1, 8, .nilf, [none]⟩),
  (31, ⟨.other, 1, 8, .nilf, [none]⟩),
  (32, ⟨.other, 1, 8, .nilf, [none]⟩),
  (33, ⟨.slice 35, 1, 24, .nil (.rows 5 []), [some (.rows 5 [])]⟩),
  (34, ⟨.struct [(3, 0), (3, 1), (4, 2), (4, 3), (22, 4)], 5, 48, .agg [.int .i64 0, .int .i64 0, .bool false, .bool false, .nil (.ints .i64 [])], [none, none, none, none, some (.ints .i64 [])]⟩),
  (35, ⟨.struct [(3, 0), (3, 1), (4, 2), (4, 3), (22, 4)], 5, 48, .agg [.int .i64 0, .int .i64 0, .bool false, .bool false, .nil (.ints .i64 [])], [none, none, none, none, some (.ints .i64 [])]⟩),
  (36, ⟨.slice 38, 1, 24, .nil (.rows 2 []), [some (.rows 2 [])]⟩),
  (37, ⟨.struct [(3, 0), (3, 1)], 2, 16, .agg [.int .i64 0, .int .i64 0], [none, none]⟩),
  (38, ⟨.struct [(3, 0), (3, 1)], 2, 16, .agg [.int .i64 0, .int .i64 0], [none, none]⟩),
  (39, ⟨.other, 1, 8, .nilf, [none]⟩),
  (40, ⟨.other, 1, 8, .nilf, [none]⟩),
  (41, ⟨.int .i64, 1, 8, .int .i64 0, [none]⟩),
  (43, ⟨.other, 1, 8, .nilf, [none]⟩),
  (44, ⟨.other, 1, 8, .nilf, [none]⟩),
  (45, ⟨.slice 5, 1, 24, .nil (.ints .u8 []), [some (.ints .u8 [])]⟩),
  (47, ⟨.other, 1, 8, .nilf, [none]⟩),
  (48, ⟨.other, 1, 8, .nilf, [none]⟩),
  (49, ⟨.other, 1, 8, .nilf, [none]⟩),
  (50, ⟨.other, 1, 8, .nilf, [none]⟩),
  (52, ⟨.other, 1, 8, .nilf, [none]⟩),
  (53, ⟨.other, 1, 8, .nilf, [none]⟩),
  (54, ⟨.other, 1, 8, .nilf, [none]⟩),
  (55, ⟨.other, 1, 8, .nilf, [none]⟩),
  (57, ⟨.other, 1, 8, .nilf, [none]⟩),
  (59, ⟨.other, 1, 8, .nilf, [none]⟩),
  (61, ⟨.other, 1, 8, .nilf, [none]⟩),
  (62, ⟨.other, 1, 8, .nilf, [none]⟩),
  (63, ⟨.other, 1, 8, .nilf, [none]⟩),
  (64, ⟨.other, 1, 8, .nilf, [none]⟩),
  (65, ⟨.other, 1, 8, .nilf, [none]⟩),
  (66, ⟨.other, 1, 8, .nilf, [none]⟩),
  (67, ⟨.other, 1, 8, .nilf, [none]⟩),
  (68, ⟨.other, 1, 8, .nilf, [none]⟩),
  (69, ⟨.other, 1, 8, .nilf, [none]⟩),
  (70, ⟨.other, 1, 8, .nilf, [none]⟩),
  (71, ⟨.other, 1, 8, .nilf, [none]⟩),
  (72, ⟨.other, 1, 8, .nilf, [none]⟩),
  (73, ⟨.other, 1, 8, .nilf, [none]⟩),
  (74, ⟨.other, 1, 8, .nilf, [none]⟩),
  (75, ⟨.other, 1, 8, .nilf, [none]⟩),
  (76, ⟨.other, 1, 8, .nilf, [none]⟩),
  (77, ⟨.other, 1, 8, .nilf, [none]⟩),
  (78, ⟨.other, 1, 8, .nilf, [none]⟩),
  (79, ⟨.other, 1, 8, .nilf, [none]⟩),
  (80, ⟨.other, 1, 8, .nilf, [none]⟩),
  (81, ⟨.other, 1, 8, .nilf, [none]⟩),
  (82, ⟨.other, 1, 8, .nilf, [none]⟩),
  (83, ⟨.other, 1, 8, .nilf, [none]⟩),
  (84, ⟨.other, 1, 8, .nilf, [none]⟩),
  (85, ⟨.other, 1, 8, .nilf, [none]⟩),
  (86, ⟨.arr 5 3, 5, 40, .agg [.int .i64 0, .int .i64 0, .int .i64 0, .int .i64 0, .int .i64 0], [none, none, none, none, none]⟩),
  (87, ⟨.other, 1, 8, .nilf, [none]⟩),
  (88, ⟨.other, 1, 8, .nilf, [none]⟩),
  (89, ⟨.other, 1, 8, .nilf, [none]⟩),
  (90, ⟨.other, 1, 8, .nilf, [none]⟩),
  (91, ⟨.other, 1, 8, .nilf, [none]⟩),
  (92, ⟨.other, 1, 8, .nilf, [none]⟩),
  (93, ⟨.other, 1, 8, .nilf, [none]⟩),
  (94, ⟨.other, 1, 8, .nilf, [none]⟩),
  (95, ⟨.other, 1, 8, .nilf, [none]⟩),
  (97, ⟨.other, 1, 8, .nilf, [none]⟩),
  (98, ⟨.other, 1, 8, .nilf, [none]⟩),
  (100, ⟨.other, 1, 8, .nilf, [none]⟩),
  (101, ⟨.other, 1, 8, .nilf, [none]⟩),
  (102, ⟨.other, 1, 8, .nilf, [none]⟩),
  (103, ⟨.other, 1, 8, .nilf, [none]⟩),
  (104, ⟨.other, 1, 8, .nilf, [none]⟩),
  (105, ⟨.slice 39, 1, 24, .nil (.rows 1 []), [some (.rows 1 [])]⟩),
  (106, ⟨.other, 1, 8, .nilf, [none]⟩),
  (107, ⟨.other, 1, 8, .nilf, [none]⟩),
  (108, ⟨.other, 1, 8, .nilf, [none]⟩),
  (109, ⟨.other, 1, 8, .nilf, [none]⟩),
  (110, ⟨.other, 1, 8, .nilf, [none]⟩),
  (111, ⟨.other, 1, 8, .nilf, [none]⟩),
  (112, ⟨.other, 1, 8, .nilf, [none]⟩),
  (113, ⟨.other, 1, 8, .nilf, [none]⟩),
  (114, ⟨.other, 1, 8, .nilf, [none]⟩),
  (115, ⟨.other, 1, 8, .nilf, [none]⟩),
  (116, ⟨.other, 1, 8, .nilf, [none]⟩),
  (117, ⟨.int .u64, 1, 8, .int .u64 0, [none]⟩),
  (118, ⟨.other, 1, 8, .nilf, [none]⟩),
  (119, ⟨.other, 1, 8, .nilf, [none]⟩),
  (120, ⟨.other, 1, 8, .nilf, [none]⟩),
  (122, ⟨.other, 1, 8, .nilf, [none]⟩),
  (123, ⟨.other, 1, 8, .nilf, [none]⟩),
  (124, ⟨.other, 1, 8, .nilf, [none]⟩),
  (125, ⟨.other, 1, 8, .nilf, [none]⟩),
  (126, ⟨.other, 1, 8, .nilf, [none]⟩),
  (127, ⟨.other, 1, 8, .nilf, [none]⟩),
  (128, ⟨.other, 1, 8, .nilf, [none]⟩),
  (130, ⟨.other, 1, 8, .nilf, [none]⟩),
  (131, ⟨.other, 1, 8, .nilf, [none]⟩),
  (132, ⟨.other, 1, 8, .nilf, [none]⟩),
  (133, ⟨.other, 1, 8, .nilf, [none]⟩),
  (135, ⟨.other, 1, 8, .nilf, [none]⟩),
  (136, ⟨.arr 13 3, 13, 104, .agg [.int .i64 0, .int .i64 0, .int .i64 0, .int .i64 0, .int .i64 0, .int .i64 0, .int .i64 0, .int .i64 0, .int .i64 0, .int .i64 0, .int .i64 0, .int .i64 0, .int .i64 0], [none, none, none, none, none, none, none, none, none, none, none, none, none]⟩),
  (137, ⟨.other, 1, 8, .nilf, [none]⟩),
  (138, ⟨.other, 1, 8, .nilf, [none]⟩),
  (139, ⟨.other, 1, 8, .nilf, [none]⟩),
  (145, ⟨.other, 1, 8, .nilf, [none]⟩),
  (146, ⟨.int .u32, 1, 4, .int .u32 0, [none]⟩),
  (147, ⟨.int .u8, 1, 1, .int .u8 0, [none]⟩),
  (148, ⟨.int .u8, 1, 1, .int .u8 0, [none]⟩),
  (149, ⟨.other, 1, 8, .nilf, [none]⟩),
  (150, ⟨.other, 1, 8, .any, [none]⟩),
  (151, ⟨.int .i32, 1, 4, .int .i32 0, [none]⟩),
  (152, ⟨.int .i32, 1, 4, .int .i32 0, [none]⟩)]
theorem tyL_ok : tyL.all (tyB Try.prog tyL) = true := by kernel_rfl
def ty : Ty := lk tyL
theorem ty_ok : TyOk Try.prog ty := tyOk_of tyL_ok
@[simp] theorem ty_1 : ty 1 = some ⟨.other, 1, 8, .nilf, [none]⟩ := rfl
@[simp] theorem ty_2 : ty 2 = some ⟨.int .i64, 1, 8, .int .i64 0, [none]⟩ := rfl
@[simp] theorem ty_3 : ty 3 = some ⟨.int .i64, 1, 8, .int .i64 0, [none]⟩ := rfl
@[simp] theorem ty_4 : ty 4 = some ⟨.bool, 1, 1, .bool false, [none]⟩ := rfl
@[simp] theorem ty_5 : ty 5 = some ⟨.int .u8, 1, 1, .int .u8 0, [none]⟩ := rfl
@[simp] theorem ty_6 : ty 6 = some ⟨.int .u8, 1, 1, .int .u8 0, [none]⟩ := rfl
@[simp] theorem ty_9 : ty 9 = some ⟨.str, 1, 16, .str ByteArray.empty, [none]⟩ := rfl
@[simp] theorem ty_12 : ty 12 = some ⟨.int .u64, 1, 8, .int .u64 0, [none]⟩ := rfl
@[simp] theorem ty_21 : ty 21 = some ⟨.int .i32, 1, 4, .int .i32 0, [none]⟩ := rfl
@[simp] theorem ty_22 : ty 22 = some ⟨.slice 3, 1, 24, .nil (.ints .i64 []), [some (.ints .i64 [])]⟩ := rfl
@[simp] theorem ty_23 : ty 23 = some ⟨.struct [(5, 0), (5, 1), (3, 2), (22, 3)], 4, 40, .agg [.int .u8 0, .int .u8 0, .int .i64 0, .nil (.ints .i64 [])], [none, none, none, some (.ints .i64 [])]⟩ := rfl
@[simp] theorem ty_24 : ty 24 = some ⟨.struct [(5, 0), (5, 1), (3, 2), (22, 3)], 4, 40, .agg [.int .u8 0, .int .u8 0, .int .i64 0, .nil (.ints .i64 [])], [none, none, none, some (.ints .i64 [])]⟩ := rfl
@[simp] theorem ty_25 : ty 25 = some ⟨.slice 36, 1, 24, .nil (.rows 1 []), [some (.rows 1 [])]⟩ := rfl
@[simp] theorem ty_26 : ty 26 = some ⟨.slice 22, 1, 24, .nil (.rows 1 []), [some (.rows 1 [])]⟩ := rfl
@[simp] theorem ty_27 : ty 27 = some ⟨.slice 33, 1, 24, .nil (.rows 1 []), [some (.rows 1 [])]⟩ := rfl
@[simp] theorem ty_28 : ty 28 = some ⟨.struct [(3, 0), (24, 1), (25, 5), (26, 6), (27, 7), (22, 8)], 9, 144, .agg [.int .i64 0, .int .u8 0, .int .u8 0, .int .i64 0, .nil (.ints .i64 []), .nil (.rows 1 []), .nil (.rows 1 []), .nil (.rows 1 []), .nil (.ints .i64 [])], [none, none, none, none, some (.ints .i64 []), some (.rows 1 []), some (.rows 1 []), some (.rows 1 []), some (.ints .i64 [])]⟩ := rfl
@[simp] theorem ty_29 : ty 29 = some ⟨.struct [(3, 0), (24, 1), (25, 5), (26, 6), (27, 7), (22, 8)], 9, 144, .agg [.int .i64 0, .int .u8 0, .int .u8 0, .int .i64 0, .nil (.ints .i64 []), .nil (.rows 1 []), .nil (.rows 1 []), .nil (.rows 1 []), .nil (.ints .i64 [])], [none, none, none, none, some (.ints .i64 []), some (.rows 1 []), some (.rows 1 []), some (.rows 1 []), some (.ints .i64 [])]⟩ := rfl
@[simp] theorem ty_30 : ty 30 = some ⟨.other, 1, 8, .nilf, [none]⟩ := rfl
@[simp] theorem ty_31 : ty 31 = some ⟨.other, 1, 8, .nilf, [none]⟩ := rfl
@[simp] theorem ty_32 : ty 32 = some ⟨.other, 1, 8, .nilf, [none]⟩ := rfl
@[simp] theorem ty_33 : ty 33 = some ⟨.slice 35, 1, 24, .nil (.rows 5 []), [some (.rows 5 [])]⟩ := rfl
@[simp] theorem ty_34 : ty 34 = some ⟨.struct [(3, 0), (3, 1), (4, 2), (4, 3), (22, 4)], 5, 48, .agg [.int .i64 0, .int .i64 0, .bool false, .bool false, .nil (.ints .i64 [])], [none, none, none, none, some (.ints .i64 [])]⟩ := rfl
@[simp] theorem ty_35 : ty 35 = some ⟨.struct [(3, 0), (3, 1), (4, 2), (4, 3), (22, 4)], 5, 48, .agg [.int .i64 0, .int .i64 0, .bool false, .bool false, .nil (.ints .i64 [])], [none, none, none, none, some (.ints .i64 [])]⟩ := rfl
@[simp] theorem ty_36 : ty 36 = some ⟨.slice 38, 1, 24, .nil (.rows 2 []), [some (.rows 2 [])]⟩ := rfl
@[simp] theorem ty_37 : ty 37 = some ⟨.struct [(3, 0), (3, 1)], 2, 16, .agg [.int .i64 0, .int .i64 0], [none, none]⟩ := rfl
@[simp] theorem ty_38 : ty 38 = some ⟨.struct [(3, 0), (3, 1)], 2, 16, .agg [.int .i64 0, .int .i64 0], [none, none]⟩ := rfl
@[simp] theorem ty_39 : ty 39 = some ⟨.other, 1, 8, .nilf, [none]⟩ := rfl
@[simp] theorem ty_40 : ty 40 = some ⟨.other, 1, 8, .nilf, [none]⟩ := rfl
@[simp] theorem ty_41 : ty 41 = some ⟨.int .i64, 1, 8, .int .i64 0, [none]⟩ := rfl
@[simp] theorem ty_43 : ty 43 = some ⟨.other, 1, 8, .nilf, [none]⟩ := rfl
@[simp] theorem ty_44 : ty 44 = some ⟨.other, 1, 8, .nilf, [none]⟩ := rfl
@[simp] theorem ty_45 : ty 45 = some ⟨.slice 5, 1, 24, .nil (.ints .u8 []), [some (.ints .u8 [])]⟩ := rfl
@[simp] theorem ty_47 : ty 47 = some ⟨.other, 1, 8, .nilf, [none]⟩ := rfl
@[simp] theorem ty_48 : ty 48 = some ⟨.other, 1, 8, .nilf, [none]⟩ := rfl
@[simp] theorem ty_49 : ty 49 = some ⟨.other, 1, 8, .nilf, [none]⟩ := rfl
@[simp] theorem ty_50 : ty 50 = some ⟨.other, 1, 8, .nilf, [none]⟩ := rfl
@[simp] theorem ty_52 : ty 52 = some ⟨.other, 1, 8, .nilf, [none]⟩ := rfl
@[simp] theorem ty_53 : ty 53 = some ⟨.other, 1, 8, .nilf, [none]⟩ := rfl
@[simp] theorem ty_54 : ty 54 = some ⟨.other, 1, 8, .nilf, [none]⟩ := rfl
@[simp] theorem ty_55 : ty 55 = some ⟨.other, 1, 8, .nilf, [none]⟩ := rfl
@[simp] theorem ty_57 : ty 57 = some ⟨.other, 1, 8, .nilf, [none]⟩ := rfl
@[simp] theorem ty_59 : ty 59 = some ⟨.other, 1, 8, .nilf, [none]⟩ := rfl
@[simp] theorem ty_61 : ty 61 = some ⟨.other, 1, 8, .nilf, [none]⟩ := rfl
@[simp] theorem ty_62 : ty 62 = some ⟨.other, 1, 8, .nilf, [none]⟩ := rfl
@[simp] theorem ty_63 : ty 63 = some ⟨.other, 1, 8, .nilf, [none]⟩ := rfl
@[simp] theorem ty_64 : ty 64 = some ⟨.other, 1, 8, .nilf, [none]⟩ := rfl
@[simp] theorem ty_65 : ty 65 = some ⟨.other, 1, 8, .nilf, [none]⟩ := rfl
@[simp] theorem ty_66 : ty 66 = some ⟨.other, 1, 8, .nilf, [none]⟩ := rfl
@[simp] theorem ty_67 : ty 67 = some ⟨.other, 1, 8, .nilf, [none]⟩ := rfl
@[simp] theorem ty_68 : ty 68 = some ⟨.other, 1, 8, .nilf, [none]⟩ := rfl
@[simp] theorem ty_69 : ty 69 = some ⟨.other, 1, 8, .nilf, [none]⟩ := rfl
@[simp] theorem ty_70 : ty 70 = some ⟨.other, 1, 8, .nilf, [none]⟩ := rfl
@[simp] theorem ty_71 : ty 71 = some ⟨.other, 1, 8, .nilf, [none]⟩ := rfl
@[simp] theorem ty_72 : ty 72 = some ⟨.other, 1, 8, .nilf, [none]⟩ := rfl
@[simp] theorem ty_73 : ty 73 = some ⟨.other, 1, 8, .nilf, [none]⟩ := rfl
@[simp] theorem ty_74 : ty 74 = some ⟨.other, 1, 8, .nilf, [none]⟩ := rfl
@[simp] theorem ty_75 : ty 75 = some ⟨.other, 1, 8, .nilf, [none]⟩ := rfl
@[simp] theorem ty_76 : ty 76 = some ⟨.other, 1, 8, .nilf, [none]⟩ := rfl
@[simp] theorem ty_77 : ty 77 = some ⟨.other, 1, 8, .nilf, [none]⟩ := rfl
@[simp] theorem ty_78 : ty 78 = some ⟨.other, 1, 8, .nilf, [none]⟩ := rfl
@[simp] theorem ty_79 : ty 79 = some ⟨.other, 1, 8, .nilf, [none]⟩ := rfl
@[simp] theorem ty_80 : ty 80 = some ⟨.other, 1, 8, .nilf, [none]⟩ := rfl
@[simp] theorem ty_81 : ty 81 = some ⟨.other, 1, 8, .nilf, [none]⟩ := rfl
@[simp] theorem ty_82 : ty 82 = some ⟨.other, 1, 8, .nilf, [none]⟩ := rfl
@[simp] theorem ty_83 : ty 83 = some ⟨.other, 1, 8, .nilf, [none]⟩ := rfl
@[simp] theorem ty_84 : ty 84 = some ⟨.other, 1, 8, .nilf, [none]⟩ := rfl
@[simp] theorem ty_85 : ty 85 = some ⟨.other, 1, 8, .nilf, [none]⟩ := rfl
@[simp] theorem ty_86 : ty 86 = some ⟨.arr 5 3, 5, 40, .agg [.int .i64 0, .int .i64 0, .int .i64 0, .int .i64 0, .int .i64 0], [none, none, none, none, none]⟩ := rfl
@[simp] theorem ty_87 : ty 87 = some ⟨.other, 1, 8, .nilf, [none]⟩ := rfl
@[simp] theorem ty_88 : ty 88 = some ⟨.other, 1, 8, .nilf, [none]⟩ := rfl
@[simp] theorem ty_89 : ty 89 = some ⟨.other, 1, 8, .nilf, [none]⟩ := rfl
@[simp] theorem ty_90 : ty 90 = some ⟨.other, 1, 8, .nilf, [none]⟩ := rfl
@[simp] theorem ty_91 : ty 91 = some ⟨.other, 1, 8, .nilf, [none]⟩ := rfl
@[simp] theorem ty_92 : ty 92 = some ⟨.other, 1, 8, .nilf, [none]⟩ := rfl
@[simp] theorem ty_93 : ty 93 = some ⟨.other, 1, 8, .nilf, [none]⟩ := rfl
@[simp] theorem ty_94 : ty 94 = some ⟨.other, 1, 8, .nilf, [none]⟩ := rfl
@[simp] theorem ty_95 : ty 95 = some ⟨.other, 1, 8, .nilf, [none]⟩ := rfl
@[simp] theorem ty_97 : ty 97 = some ⟨.other, 1, 8, .nilf, [none]⟩ := rfl
@[simp] theorem ty_98 : ty 98 = some ⟨.other, 1, 8, .nilf, [none]⟩ := rfl
@[simp] theorem ty_100 : ty 100 = some ⟨.other, 1, 8, .nilf, [none]⟩ := rfl
@[simp] theorem ty_101 : ty 101 = some ⟨.other, 1, 8, .nilf, [none]⟩ := rfl
@[simp] theorem ty_102 : ty 102 = some ⟨.other, 1, 8, .nilf, [none]⟩ := rfl
@[simp] theorem ty_103 : ty 103 = some ⟨.other, 1, 8, .nilf, [none]⟩ := rfl
@[simp] theorem ty_104 : ty 104 = some ⟨.other, 1, 8, .nilf, [none]⟩ := rfl
@[simp] theorem ty_105 : ty 105 = some ⟨.slice 39, 1, 24, .nil (.rows 1 []), [some (.rows 1 [])]⟩ := rfl
@[simp] theorem ty_106 : ty 106 = some ⟨.other, 1, 8, .nilf, [none]⟩ := rfl
@[simp] theorem ty_107 : ty 107 = some ⟨.other, 1, 8, .nilf, [none]⟩ := rfl
@[simp] theorem ty_108 : ty 108 = some ⟨.other, 1, 8, .nilf, [none]⟩ := rfl
@[simp] theorem ty_109 : ty 109 = some ⟨.other, 1, 8, .nilf, [none]⟩ := rfl
@[simp] theorem ty_110 : ty 110 = some ⟨.other, 1, 8, .nilf, [none]⟩ := rfl
@[simp] theorem ty_111 : ty 111 = some ⟨.other, 1, 8, .nilf, [none]⟩ := rfl
@[simp] theorem ty_112 : ty 112 = some ⟨.other, 1, 8, .nilf, [none]⟩ := rfl
@[simp] theorem ty_113 : ty 113 = some ⟨.other, 1, 8, .nilf, [none]⟩ := rfl
@[simp] theorem ty_114 : ty 114 = some ⟨.other, 1, 8, .nilf, [none]⟩ := rfl
@[simp] theorem ty_115 : ty 115 = some ⟨.other, 1, 8, .nilf, [none]⟩ := rfl
@[simp] theorem ty_116 : ty 116 = some ⟨.other, 1, 8, .nilf, [none]⟩ := rfl
@[simp] theorem ty_117 : ty 117 = some ⟨.int .u64, 1, 8, .int .u64 0, [none]⟩ := rfl
@[simp] theorem ty_118 : ty 118 = some ⟨.other, 1, 8, .nilf, [none]⟩ := rfl
@[simp] theorem ty_119 : ty 119 = some ⟨.other, 1, 8, .nilf, [none]⟩ := rfl
@[simp] theorem ty_120 : ty 120 = some ⟨.other, 1, 8, .nilf, [none]⟩ := rfl
@[simp] theorem ty_122 : ty 122 = some ⟨.other, 1, 8, .nilf, [none]⟩ := rfl
@[simp] theorem ty_123 : ty 123 = some ⟨.other, 1, 8, .nilf, [none]⟩ := rfl
@[simp] theorem ty_124 : ty 124 = some ⟨.other, 1, 8, .nilf, [none]⟩ := rfl
@[simp] theorem ty_125 : ty 125 = some ⟨.other, 1, 8, .nilf, [none]⟩ := rfl
@[simp] theorem ty_126 : ty 126 = some ⟨.other, 1, 8, .nilf, [none]⟩ := rfl
@[simp] theorem ty_127 : ty 127 = some ⟨.other, 1, 8, .nilf, [none]⟩ := rfl
@[simp] theorem ty_128 : ty 128 = some ⟨.other, 1, 8, .nilf, [none]⟩ := rfl
@[simp] theorem ty_130 : ty 130 = some ⟨.other, 1, 8, .nilf, [none]⟩ := rfl
@[simp] theorem ty_131 : ty 131 = some ⟨.other, 1, 8, .nilf, [none]⟩ := rfl
@[simp] theorem ty_132 : ty 132 = some ⟨.other, 1, 8, .nilf, [none]⟩ := rfl
@[simp] theorem ty_133 : ty 133 = some ⟨.other, 1, 8, .nilf, [none]⟩ := rfl
@[simp] theorem ty_135 : ty 135 = some ⟨.other, 1, 8, .nilf, [none]⟩ := rfl
@[simp] theorem ty_136 : ty 136 = some ⟨.arr 13 3, 13, 104, .agg [.int .i64 0, .int .i64 0, .int .i64 0, .int .i64 0, .int .i64 0, .int .i64 0, .int .i64 0, .int .i64 0, .int .i64 0, .int .i64 0, .int .i64 0, .int .i64 0, .int .i64 0], [none, none, none, none, none, none, none, none, none, none, none, none, none]⟩ := rfl
@[simp] theorem ty_137 : ty 137 = some ⟨.other, 1, 8, .nilf, [none]⟩ := rfl
@[simp] theorem ty_138 : ty 138 = some ⟨.other, 1, 8, .nilf, [none]⟩ := rfl
@[simp] theorem ty_139 : ty 139 = some ⟨.other, 1, 8, .nilf, [none]⟩ := rfl
@[simp] theorem ty_145 : ty 145 = some ⟨.other, 1, 8, .nilf, [none]⟩ := rfl
@[simp] theorem ty_146 : ty 146 = some ⟨.int .u32, 1, 4, .int .u32 0, [none]⟩ := rfl
@[simp] theorem ty_147 : ty 147 = some ⟨.int .u8, 1, 1, .int .u8 0, [none]⟩ := rfl
@[simp] theorem ty_148 : ty 148 = some ⟨.int .u8, 1, 1, .int .u8 0, [none]⟩ := rfl
@[simp] theorem ty_149 : ty 149 = some ⟨.other, 1, 8, .nilf, [none]⟩ := rfl
@[simp] theorem ty_150 : ty 150 = some ⟨.other, 1, 8, .any, [none]⟩ := rfl
@[simp] theorem ty_151 : ty 151 = some ⟨.int .i32, 1, 4, .int .i32 0, [none]⟩ := rfl
@[simp] theorem ty_152 : ty 152 = some ⟨.int .i32, 1, 4, .int .i32 0, [none]⟩ := rfl
end Go.Proofs.Ytmkgfgdipkagbaa
