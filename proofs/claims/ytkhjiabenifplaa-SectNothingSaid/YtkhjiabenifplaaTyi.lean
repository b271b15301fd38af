import Derived.Test.YtkhjiabenifplaaProg
import Derived.Test.YtkhjiabenifplaaPgc
import Derived.KernelRfl
/-
  The table of types of this seat's program, as the calculus asks it.
-/
namespace Go.Proofs.Ytkhjiabenifplaa
open Go Go.Pv
def tyL : List (Nat × TI) := [
  (1, ⟨.other, 1, 8, .nilf, [none]⟩),
  (2, ⟨.int .i64, 1, 8, .int .i64 0, [none]⟩),
  (3, ⟨.int .i64, 1, 8, .int .i64 0, [none]⟩),
  (4, ⟨.bool, 1, 1, .bool false, [none]⟩),
  (5, ⟨.int .u8, 1, 1, .int .u8 0, [none]⟩),
  (6, ⟨.int .u8, 1, 1, .int .u8 0, [none]⟩),
  (9, ⟨.str, 1, 16, .str ByteArray.empty, [none]⟩),
  (12, ⟨.int .u64, 1, 8, .int .u64 0, [none]⟩),
  (21, ⟨.int .i32, 1, 4, .int .i32 0, [none]⟩),
  (22, ⟨.slice 3, 1, 24, .nil (.ints .i64 []), [some (.ints .i64 [])]⟩),
  (23, ⟨.struct [(5, 0), (5, 1), (3, 2), (22, 3)], 4, 40, .agg [.int .u8 0, .int .u8 0, .int .i64 0, .nil (.ints .i64 [])], [none, none, none, some (.ints .i64 [])]⟩),
  (24, ⟨.struct [(5, 0), (5, 1), (3, 2), (22, 3)], 4, 40, .agg [.int .u8 0, .int .u8 0, .int .i64 0, .nil (.ints .i64 [])], [none, none, none, some (.ints .i64 [])]⟩),
  (25, ⟨.other, 1, 8, .nilf, [none]⟩),
  (26, ⟨.int .i64, 1, 8, .int .i64 0, [none]⟩),
  (28, ⟨.other, 1, 8, .nilf, [none]⟩),
  (30, ⟨.other, 1, 8, .nilf, [none]⟩),
  (31, ⟨.other, 1, 8, .nilf, [none]⟩),
  (32, ⟨.other, 1, 8, .nilf, [none]⟩),
  (33, ⟨.other, 1, 8, .nilf, [none]⟩),
  (34, ⟨.other, 1, 8, .nilf, [none]⟩),
  (35, ⟨.other, 1, 8, .nilf, [none]⟩),
  (36, ⟨.other, 1, 8, .nilf, [none]⟩),
  (37, ⟨.other, 1, 8, .nilf, [none]⟩),
  (38, ⟨.other, 1, 8, .nilf, [none]⟩),
  (39, ⟨.other, 1, 8, .nilf, [none]⟩),
  (40, ⟨.other, 1, 8, .nilf, [none]⟩),
  (41, ⟨.other, 1, 8, .nilf, [none]⟩),
  (42, ⟨.slice 47, 1, 24, .nil (.rows 1 []), [some (.rows 1 [])]⟩),
  (43, ⟨.other, 1, 8, .nilf, [none]⟩),
  (44, ⟨.slice 5, 1, 24, .nil (.ints .u8 []), [some (.ints .u8 [])]⟩),
  (46, ⟨.other, 1, 8, .nilf, [none]⟩),
  (47, ⟨.slice 76, 1, 24, .nil (.rows 2 []), [some (.rows 2 [])]⟩),
  (48, ⟨.other, 1, 8, .nilf, [none]⟩),
  (49, ⟨.other, 1, 8, .nilf, [none]⟩),
  (51, ⟨.other, 1, 8, .nilf, [none]⟩),
  (52, ⟨.other, 1, 8, .nilf, [none]⟩),
  (54, ⟨.other, 1, 8, .nilf, [none]⟩),
  (55, ⟨.other, 1, 8, .nilf, [none]⟩),
  (57, ⟨.other, 1, 8, .nilf, [none]⟩),
  (59, ⟨.other, 1, 8, .nilf, [none]⟩),
  (60, ⟨.other, 1, 8, .nilf, [none]⟩),
  (61, ⟨.other, 1, 8, .nilf, [none]⟩),
  (62, ⟨.other, 1, 8, .nilf, [none]⟩),
  (63, ⟨.other, 1, 8, .nilf, [none]⟩),
  (64, ⟨.other, 1, 8, .nilf, [none]⟩),
  (65, ⟨.other, 1, 8, .nilf, [none]⟩),
  (66, ⟨.other, 1, 8, .nilf, [none]⟩),
  (67, ⟨.other, 1, 8, .nilf, [none]⟩),
  (68, ⟨.other, 1, 8, .nilf, [none]⟩),
  (69, ⟨.arr 4 4, 4, 4, .agg [.bool false, .bool false, .bool false, .bool false], [none, none, none, none]⟩),
  (70, ⟨.arr 4 69, 16, 16, .agg [.bool false, .bool false, .bool false, .bool false, .bool false, .bool false, .bool false, .bool false, .bool false, .bool false, .bool false, .bool false, .bool false, .bool false, .bool false, .bool false], [none, none, none, none, none, none, none, none, none, none, none, none, none, none, none, none]⟩),
  (71, ⟨.other, 1, 8, .nilf, [none]⟩),
  (72, ⟨.other, 1, 8, .nilf, [none]⟩),
  (74, ⟨.other, 1, 8, .nilf, [none]⟩),
  (75, ⟨.struct [(3, 0), (3, 1)], 2, 16, .agg [.int .i64 0, .int .i64 0], [none, none]⟩),
  (76, ⟨.struct [(3, 0), (3, 1)], 2, 16, .agg [.int .i64 0, .int .i64 0], [none, none]⟩),
  (77, ⟨.other, 1, 8, .nilf, [none]⟩),
  (78, ⟨.other, 1, 8, .nilf, [none]⟩),
  (79, ⟨.other, 1, 8, .nilf, [none]⟩),
  (80, ⟨.other, 1, 8, .nilf, [none]⟩),
  (81, ⟨.other, 1, 8, .nilf, [none]⟩),
  (83, ⟨.other, 1, 8, .nilf, [none]⟩),
  (84, ⟨.other, 1, 8, .nilf, [none]⟩),
  (85, ⟨.other, 1, 8, .nilf, [none]⟩),
  (86, ⟨.other, 1, 8, .nilf, [none]⟩),
  (87, ⟨.other, 1, 8, .nilf, [none]⟩),
  (88, ⟨.other, 1, 8, .nilf, [none]⟩),
  (89, ⟨.other, 1, 8, .nilf, [none]⟩),
  (90, ⟨.other, 1, 8, .nilf, [none]⟩),
  (91, ⟨.other, 1, 8, .nilf, [none]⟩),
  (92, ⟨.other, 1, 8, .nilf, [none]⟩),
  (93, ⟨.other, 1, 8, .nilf, [none]⟩),
  (94, ⟨.int .u64, 1, 8, .int .u64 0, [none]⟩),
  (95, ⟨.other, 1, 8, .nilf, [none]⟩),
  (97, ⟨.other, 1, 8, .nilf, [none]⟩),
  (99, ⟨.other, 1, 8, .nilf, [none]⟩),
  (100, ⟨.other, 1, 8, .nilf, [none]⟩),
  (102, ⟨.other, 1, 8, .nilf, [none]⟩),
  (103, ⟨.other, 1, 8, .nilf, [none]⟩),
  (104, ⟨.other, 1, 8, .nilf, [none]⟩),
  (105, ⟨.other, 1, 8, .nilf, [none]⟩),
  (106, ⟨.other, 1, 8, .nilf, [none]⟩),
  (112, ⟨.other, 1, 8, .nilf, [none]⟩),
  (113, ⟨.int .u32, 1, 4, .int .u32 0, [none]⟩),
  (114, ⟨.int .u8, 1, 1, .int .u8 0, [none]⟩),
  (115, ⟨.int .u8, 1, 1, .int .u8 0, [none]⟩),
  (116, ⟨.other, 1, 8, .nilf, [none]⟩),
  (117, ⟨.other, 1, 8, .any, [none]⟩),
  (118, ⟨.int .i32, 1, 4, .int .i32 0, [none]⟩),
  (119, ⟨.int .i32, 1, 4, .int .i32 0, [none]⟩)]
theorem tyL_ok : tyL.all (tyB Try.prog tyL) = true := by kernel_rfl
def ty : Ty := lk tyL
theorem ty_ok : TyOk Try.prog ty := tyOk_of tyL_ok
@[simp] theorem ty_1 : ty 1 = some ⟨.other, 1, 8, .nilf, [none]⟩ := rfl
@[simp] theorem ty_2 : ty 2 = some ⟨.int .i64, 1, 8, .int .i64 0, [none]⟩ := rfl
@[simp] theorem ty_3 : ty 3 = some ⟨.int .i64, 1, 8, .int .i64 0, [none]⟩ := rfl
@[simp] theorem ty_4 : ty 4 = some ⟨.bool, 1, 1, .bool false, [none]⟩ := rfl
@[simp] theorem ty_5 : ty 5 = some ⟨.int .u8, 1, 1, .int .u8 0, [none]⟩ := rfl
@[simp] theorem ty_6 : ty 6 = some ⟨.int .u8, 1, 1, .int .u8 0, [none]⟩ := rfl
@[simp] theorem ty_9 : ty 9 = some ⟨.str, 1, 16, .str ByteArray.empty, [none]⟩ := rfl
@[simp] theorem ty_12 : ty 12 = some ⟨.int .u64, 1, 8, .int .u64 0, [none]⟩ := rfl
@[simp] theorem ty_21 : ty 21 = some ⟨.int .i32, 1, 4, .int .i32 0, [none]⟩ := rfl
@[simp] theorem ty_22 : ty 22 = some ⟨.slice 3, 1, 24, .nil (.ints .i64 []), [some (.ints .i64 [])]⟩ := rfl
@[simp] theorem ty_23 : ty 23 = some ⟨.struct [(5, 0), (5, 1), (3, 2), (22, 3)], 4, 40, .agg [.int .u8 0, .int .u8 0, .int .i64 0, .nil (.ints .i64 [])], [none, none, none, some (.ints .i64 [])]⟩ := rfl
@[simp] theorem ty_24 : ty 24 = some ⟨.struct [(5, 0), (5, 1), (3, 2), (22, 3)], 4, 40, .agg [.int .u8 0, .int .u8 0, .int .i64 0, .nil (.ints .i64 [])], [none, none, none, some (.ints .i64 [])]⟩ := rfl
@[simp] theorem ty_25 : ty 25 = some ⟨.other, 1, 8, .nilf, [none]⟩ := rfl
@[simp] theorem ty_26 : ty 26 = some ⟨.int .i64, 1, 8, .int .i64 0, [none]⟩ := rfl
@[simp] theorem ty_28 : ty 28 = some ⟨.other, 1, 8, .nilf, [none]⟩ := rfl
@[simp] theorem ty_30 : ty 30 = some ⟨.other, 1, 8, .nilf, [none]⟩ := rfl
@[simp] theorem ty_31 : ty 31 = some ⟨.other, 1, 8, .nilf, [none]⟩ := rfl
@[simp] theorem ty_32 : ty 32 = some ⟨.other, 1, 8, .nilf, [none]⟩ := rfl
@[simp] theorem ty_33 : ty 33 = some ⟨.other, 1, 8, .nilf, [none]⟩ := rfl
@[simp] theorem ty_34 : ty 34 = some ⟨.other, 1, 8, .nilf, [none]⟩ := rfl
@[simp] theorem ty_35 : ty 35 = some ⟨.other, 1, 8, .nilf, [none]⟩ := rfl
@[simp] theorem ty_36 : ty 36 = some ⟨.other, 1, 8, .nilf, [none]⟩ := rfl
@[simp] theorem ty_37 : ty 37 = some ⟨.other, 1, 8, .nilf, [none]⟩ := rfl
@[simp] theorem ty_38 : ty 38 = some ⟨.other, 1, 8, .nilf, [none]⟩ := rfl
@[simp] theorem ty_39 : ty 39 = some ⟨.other, 1, 8, .nilf, [none]⟩ := rfl
@[simp] theorem ty_40 : ty 40 = some ⟨.other, 1, 8, .nilf, [none]⟩ := rfl
@[simp] theorem ty_41 : ty 41 = some ⟨.other, 1, 8, .nilf, [none]⟩ := rfl
@[simp] theorem ty_42 : ty 42 = some ⟨.slice 47, 1, 24, .nil (.rows 1 []), [some (.rows 1 [])]⟩ := rfl
@[simp] theorem ty_43 : ty 43 = some ⟨.other, 1, 8, .nilf, [none]⟩ := rfl
@[simp] theorem ty_44 : ty 44 = some ⟨.slice 5, 1, 24, .nil (.ints .u8 []), [some (.ints .u8 [])]⟩ := rfl
@[simp] theorem ty_46 : ty 46 = some ⟨.other, 1, 8, .nilf, [none]⟩ := rfl
@[simp] theorem ty_47 : ty 47 = some ⟨.slice 76, 1, 24, .nil (.rows 2 []), [some (.rows 2 [])]⟩ := rfl
@[simp] theorem ty_48 : ty 48 = some ⟨.other, 1, 8, .nilf, [none]⟩ := rfl
@[simp] theorem ty_49 : ty 49 = some ⟨.other, 1, 8, .nilf, [none]⟩ := rfl
@[simp] theorem ty_51 : ty 51 = some ⟨.other, 1, 8, .nilf, [none]⟩ := rfl
@[simp] theorem ty_52 : ty 52 = some ⟨.other, 1, 8, .nilf, [none]⟩ := rfl
@[simp] theorem ty_54 : ty 54 = some ⟨.other, 1, 8, .nilf, [none]⟩ := rfl
@[simp] theorem ty_55 : ty 55 = some ⟨.other, 1, 8, .nilf, [none]⟩ := rfl
@[simp] theorem ty_57 : ty 57 = some ⟨.other, 1, 8, .nilf, [none]⟩ := rfl
@[simp] theorem ty_59 : ty 59 = some ⟨.other, 1, 8, .nilf, [none]⟩ := rfl
@[simp] theorem ty_60 : ty 60 = some ⟨.other, 1, 8, .nilf, [none]⟩ := rfl
@[simp] theorem ty_61 : ty 61 = some ⟨.other, 1, 8, .nilf, [none]⟩ := rfl
@[simp] theorem ty_62 : ty 62 = some ⟨.other, 1, 8, .nilf, [none]⟩ := rfl
@[simp] theorem ty_63 : ty 63 = some ⟨.other, 1, 8, .nilf, [none]⟩ := rfl
@[simp] theorem ty_64 : ty 64 = some ⟨.other, 1, 8, .nilf, [none]⟩ := rfl
@[simp] theorem ty_65 : ty 65 = some ⟨.other, 1, 8, .nilf, [none]⟩ := rfl
@[simp] theorem ty_66 : ty 66 = some ⟨.other, 1, 8, .nilf, [none]⟩ := rfl
@[simp] theorem ty_67 : ty 67 = some ⟨.other, 1, 8, .nilf, [none]⟩ := rfl
@[simp] theorem ty_68 : ty 68 = some ⟨.other, 1, 8, .nilf, [none]⟩ := rfl
@[simp] theorem ty_69 : ty 69 = some ⟨.arr 4 4, 4, 4, .agg [.bool false, .bool false, .bool false, .bool false], [none, none, none, none]⟩ := rfl
@[simp] theorem ty_70 : ty 70 = some ⟨.arr 4 69, 16, 16, .agg [.bool false, .bool false, .bool false, .bool false, .bool false, .bool false, .bool false, .bool false, .bool false, .bool false, .bool false, .bool false, .bool false, .bool false, .bool false, .bool false], [none, none, none, none, none, none, none, none, none, none, none, none, none, none, none, none]⟩ := rfl
@[simp] theorem ty_71 : ty 71 = some ⟨.other, 1, 8, .nilf, [none]⟩ := rfl
@[simp] theorem ty_72 : ty 72 = some ⟨.other, 1, 8, .nilf, [none]⟩ := rfl
@[simp] theorem ty_74 : ty 74 = some ⟨.other, 1, 8, .nilf, [none]⟩ := rfl
@[simp] theorem ty_75 : ty 75 = some ⟨.struct [(3, 0), (3, 1)], 2, 16, .agg [.int .i64 0, .int .i64 0], [none, none]⟩ := rfl
@[simp] theorem ty_76 : ty 76 = some ⟨.struct [(3, 0), (3, 1)], 2, 16, .agg [.int .i64 0, .int .i64 0], [none, none]⟩ := rfl
@[simp] theorem ty_77 : ty 77 = some ⟨.other, 1, 8, .nilf, [none]⟩ := rfl
@[simp] theorem ty_78 : ty 78 = some ⟨.other, 1, 8, .nilf, [none]⟩ := rfl
@[simp] theorem ty_79 : ty 79 = some ⟨.other, 1, 8, .nilf, [none]⟩ := rfl
@[simp] theorem ty_80 : ty 80 = some ⟨.other, 1, 8, .nilf, [none]⟩ := rfl
@[simp] theorem ty_81 : ty 81 = some ⟨.other, 1, 8, .nilf, [none]⟩ := rfl
@[simp] theorem ty_83 : ty 83 = some ⟨.other, 1, 8, .nilf, [none]⟩ := rfl
@[simp] theorem ty_84 : ty 84 = some ⟨.other, 1, 8, .nilf, [none]⟩ := rfl
@[simp] theorem ty_85 : ty 85 = some ⟨.other, 1, 8, .nilf, [none]⟩ := rfl
@[simp] theorem ty_86 : ty 86 = some ⟨.other, 1, 8, .nilf, [none]⟩ := rfl
@[simp] theorem ty_87 : ty 87 = some ⟨.other, 1, 8, .nilf, [none]⟩ := rfl
@[simp] theorem ty_88 : ty 88 = some ⟨.other, 1, 8, .nilf, [none]⟩ := rfl
@[simp] theorem ty_89 : ty 89 = some ⟨.other, 1, 8, .nilf, [none]⟩ := rfl
@[simp] theorem ty_90 : ty 90 = some ⟨.other, 1, 8, .nilf, [none]⟩ := rfl
@[simp] theorem ty_91 : ty 91 = some ⟨.other, 1, 8, .nilf, [none]⟩ := rfl
@[simp] theorem ty_92 : ty 92 = some ⟨.other, 1, 8, .nilf, [none]⟩ := rfl
@[simp] theorem ty_93 : ty 93 = some ⟨.other, 1, 8, .nilf, [none]⟩ := rfl
@[simp] theorem ty_94 : ty 94 = some ⟨.int .u64, 1, 8, .int .u64 0, [none]⟩ := rfl
@[simp] theorem ty_95 : ty 95 = some ⟨.other, 1, 8, .nilf, [none]⟩ := rfl
@[simp] theorem ty_97 : ty 97 = some ⟨.other, 1, 8, .nilf, [none]⟩ := rfl
@[simp] theorem ty_99 : ty 99 = some ⟨.other, 1, 8, .nilf, [none]⟩ := rfl
@[simp] theorem ty_100 : ty 100 = some ⟨.other, 1, 8, .nilf, [none]⟩ := rfl
@[simp] theorem ty_102 : ty 102 = some ⟨.other, 1, 8, .nilf, [none]⟩ := rfl
@[simp] theorem ty_103 : ty 103 = some ⟨.other, 1, 8, .nilf, [none]⟩ := rfl
@[simp] theorem ty_104 : ty 104 = some ⟨.other, 1, 8, .nilf, [none]⟩ := rfl
@[simp] theorem ty_105 : ty 105 = some ⟨.other, 1, 8, .nilf, [none]⟩ := rfl
@[simp] theorem ty_106 : ty 106 = some ⟨.other, 1, 8, .nilf, [none]⟩ := rfl
@[simp] theorem ty_112 : ty 112 = some ⟨.other, 1, 8, .nilf, [none]⟩ := rfl
@[simp] theorem ty_113 : ty 113 = some ⟨.int .u32, 1, 4, .int .u32 0, [none]⟩ := rfl
@[simp] theorem ty_114 : ty 114 = some ⟨.int .u8, 1, 1, .int .u8 0, [none]⟩ := rfl
@[simp] theorem ty_115 : ty 115 = some ⟨.int .u8, 1, 1, .int .u8 0, [none]⟩ := rfl
@[simp] theorem ty_116 : ty 116 = some ⟨.other, 1, 8, .nilf, [none]⟩ := rfl
@[simp] theorem ty_117 : ty 117 = some ⟨.other, 1, 8, .any, [none]⟩ := rfl
@[simp] theorem ty_118 : ty 118 = some ⟨.int .i32, 1, 4, .int .i32 0, [none]⟩ := rfl
@[simp] theorem ty_119 : ty 119 = some ⟨.int .i32, 1, 4, .int .i32 0, [none]⟩ := rfl
end Go.Proofs.Ytkhjiabenifplaa
