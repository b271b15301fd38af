/-
  The table of types of this seat's program, as the calculus asks it.
-/
import Derived.Test.YtdcidpgabhbhbaaProg
import Derived.Test.YtdcidpgabhbhbaaPvs
import Derived.KernelRfl
namespace Go.Proofs.Ytdcidpgabhbhbaa
open Go Go.Pv
def tyL : List (Nat × TI) := [
  (1, ⟨.other, 1, 8, .nilf, [none]⟩),
  (2, ⟨.int .i64, 1, 8, .int .i64 0, [none]⟩),
  (3, ⟨.int .i64, 1, 8, .int .i64 0, [none]⟩),
  (4, ⟨.bool, 1, 1, .bool false, [none]⟩),
  (5, ⟨.int .u8, 1, 1, .int .u8 0, [none]⟩),
  (6, ⟨.int .u8, 1, 1, .int .u8 0, [none]⟩),
  (9, ⟨.str, 1, 16, .str ByteArray.empty, [none]⟩),
  (12, ⟨.int .u64, 1, 8, .int .u64 0, [none]⟩),
  (21, ⟨.int .i32, 1, 4, .int .i32 0, [none]⟩),
  (22, ⟨.slice 3, 1, 24, .nil (.ints .i64 []), [some (.ints .i64 [])]⟩),
  (23, ⟨.other, 1, 8, .nilf, [none]⟩),
  (24, ⟨.int .i64, 1, 8, .int .i64 0, [none]⟩),
  (26, ⟨.other, 1, 8, .nilf, [none]⟩),
  (27, ⟨.other, 1, 8, .nilf, [none]⟩),
  (28, ⟨.other, 1, 8, .nilf, [none]⟩),
  (29, ⟨.other, 1, 8, .nilf, [none]⟩),
  (30, ⟨.other, 1, 8, .nilf, [none]⟩),
  (32, ⟨.other, 1, 8, .nilf, [none]⟩),
  (34, ⟨.other, 1, 8, .nilf, [none]⟩),
  (35, ⟨.other, 1, 8, .nilf, [none]⟩),
  (36, ⟨.other, 1, 8, .nilf, [none]⟩),
  (38, ⟨.other, 1, 8, .nilf, [none]⟩),
  (40, ⟨.other, 1, 8, .nilf, [none]⟩),
  (42, ⟨.other, 1, 8, .nilf, [none]⟩),
  (43, ⟨.other, 1, 8, .nilf, [none]⟩),
  (44, ⟨.other, 1, 8, .nilf, [none]⟩),
  (45, ⟨.other, 1, 8, .nilf, [none]⟩),
  (46, ⟨.other, 1, 8, .nilf, [none]⟩),
  (47, ⟨.other, 1, 8, .nilf, [none]⟩),
  (48, ⟨.other, 1, 8, .nilf, [none]⟩),
  (49, ⟨.other, 1, 8, .nilf, [none]⟩),
  (50, ⟨.other, 1, 8, .nilf, [none]⟩),
  (51, ⟨.other, 1, 8, .nilf, [none]⟩),
  (53, ⟨.other, 1, 8, .nilf, [none]⟩),
  (54, ⟨.other, 1, 8, .nilf, [none]⟩),
  (55, ⟨.other, 1, 8, .nilf, [none]⟩),
  (56, ⟨.other, 1, 8, .nilf, [none]⟩),
  (57, ⟨.other, 1, 8, .nilf, [none]⟩),
  (59, ⟨.other, 1, 8, .nilf, [none]⟩),
  (60, ⟨.other, 1, 8, .nilf, [none]⟩),
  (66, ⟨.other, 1, 8, .nilf, [none]⟩),
  (67, ⟨.int .u32, 1, 4, .int .u32 0, [none]⟩),
  (68, ⟨.int .u8, 1, 1, .int .u8 0, [none]⟩),
  (69, ⟨.int .u8, 1, 1, .int .u8 0, [none]⟩),
  (70, ⟨.other, 1, 8, .nilf, [none]⟩),
  (71, ⟨.other, 1, 8, .any, [none]⟩),
  (72, ⟨.int .i32, 1, 4, .int .i32 0, [none]⟩),
  (73, ⟨.int .i32, 1, 4, .int .i32 0, [none]⟩)]
theorem tyL_ok : tyL.all (tyB Try.prog tyL) = true := by kernel_rfl
def ty : Ty := lk tyL
theorem ty_ok : TyOk Try.prog ty := tyOk_of tyL_ok
@[simp] theorem ty_1 : ty 1 = some ⟨.other, 1, 8, .nilf, [none]⟩ := rfl
@[simp] theorem ty_2 : ty 2 = some ⟨.int .i64, 1, 8, .int .i64 0, [none]⟩ := rfl
@[simp] theorem ty_3 : ty 3 = some ⟨.int .i64, 1, 8, .int .i64 0, [none]⟩ := rfl
@[simp] theorem ty_4 : ty 4 = some ⟨.bool, 1, 1, .bool false, [none]⟩ := rfl
@[simp] theorem ty_5 : ty 5 = some ⟨.int .u8, 1, 1, .int .u8 0, [none]⟩ := rfl
@[simp] theorem ty_6 : ty 6 = some ⟨.int .u8, 1, 1, .int .u8 0, [none]⟩ := rfl
@[simp] theorem ty_9 : ty 9 = some ⟨.str, 1, 16, .str ByteArray.empty, [none]⟩ := rfl
@[simp] theorem ty_12 : ty 12 = some ⟨.int .u64, 1, 8, .int .u64 0, [none]⟩ := rfl
@[simp] theorem ty_21 : ty 21 = some ⟨.int .i32, 1, 4, .int .i32 0, [none]⟩ := rfl
@[simp] theorem ty_22 : ty 22 = some ⟨.slice 3, 1, 24, .nil (.ints .i64 []), [some (.ints .i64 [])]⟩ := rfl
@[simp] theorem ty_23 : ty 23 = some ⟨.other, 1, 8, .nilf, [none]⟩ := rfl
@[simp] theorem ty_24 : ty 24 = some ⟨.int .i64, 1, 8, .int .i64 0, [none]⟩ := rfl
@[simp] theorem ty_26 : ty 26 = some ⟨.other, 1, 8, .nilf, [none]⟩ := rfl
@[simp] theorem ty_27 : ty 27 = some ⟨.other, 1, 8, .nilf, [none]⟩ := rfl
@[simp] theorem ty_28 : ty 28 = some ⟨.other, 1, 8, .nilf, [none]⟩ := rfl
@[simp] theorem ty_29 : ty 29 = some ⟨.other, 1, 8, .nilf, [none]⟩ := rfl
@[simp] theorem ty_30 : ty 30 = some ⟨.other, 1, 8, .nilf, [none]⟩ := rfl
@[simp] theorem ty_32 : ty 32 = some ⟨.other, 1, 8, .nilf, [none]⟩ := rfl
@[simp] theorem ty_34 : ty 34 = some ⟨.other, 1, 8, .nilf, [none]⟩ := rfl
@[simp] theorem ty_35 : ty 35 = some ⟨.other, 1, 8, .nilf, [none]⟩ := rfl
@[simp] theorem ty_36 : ty 36 = some ⟨.other, 1, 8, .nilf, [none]⟩ := rfl
@[simp] theorem ty_38 : ty 38 = some ⟨.other, 1, 8, .nilf, [none]⟩ := rfl
@[simp] theorem ty_40 : ty 40 = some ⟨.other, 1, 8, .nilf, [none]⟩ := rfl
@[simp] theorem ty_42 : ty 42 = some ⟨.other, 1, 8, .nilf, [none]⟩ := rfl
@[simp] theorem ty_43 : ty 43 = some ⟨.other, 1, 8, .nilf, [none]⟩ := rfl
@[simp] theorem ty_44 : ty 44 = some ⟨.other, 1, 8, .nilf, [none]⟩ := rfl
@[simp] theorem ty_45 : ty 45 = some ⟨.other, 1, 8, .nilf, [none]⟩ := rfl
@[simp] theorem ty_46 : ty 46 = some ⟨.other, 1, 8, .nilf, [none]⟩ := rfl
@[simp] theorem ty_47 : ty 47 = some ⟨.other, 1, 8, .nilf, [none]⟩ := rfl
@[simp] theorem ty_48 : ty 48 = some ⟨.other, 1, 8, .nilf, [none]⟩ := rfl
@[simp] theorem ty_49 : ty 49 = some ⟨.other, 1, 8, .nilf, [none]⟩ := rfl
@[simp] theorem ty_50 : ty 50 = some ⟨.other, 1, 8, .nilf, [none]⟩ := rfl
@[simp] theorem ty_51 : ty 51 = some ⟨.other, 1, 8, .nilf, [none]⟩ := rfl
@[simp] theorem ty_53 : ty 53 = some ⟨.other, 1, 8, .nilf, [none]⟩ := rfl
@[simp] theorem ty_54 : ty 54 = some ⟨.other, 1, 8, .nilf, [none]⟩ := rfl
@[simp] theorem ty_55 : ty 55 = some ⟨.other, 1, 8, .nilf, [none]⟩ := rfl
@[simp] theorem ty_56 : ty 56 = some ⟨.other, 1, 8, .nilf, [none]⟩ := rfl
@[simp] theorem ty_57 : ty 57 = some ⟨.other, 1, 8, .nilf, [none]⟩ := rfl
@[simp] theorem ty_59 : ty 59 = some ⟨.other, 1, 8, .nilf, [none]⟩ := rfl
@[simp] theorem ty_60 : ty 60 = some ⟨.other, 1, 8, .nilf, [none]⟩ := rfl
@[simp] theorem ty_66 : ty 66 = some ⟨.other, 1, 8, .nilf, [none]⟩ := rfl
@[simp] theorem ty_67 : ty 67 = some ⟨.int .u32, 1, 4, .int .u32 0, [none]⟩ := rfl
@[simp] theorem ty_68 : ty 68 = some ⟨.int .u8, 1, 1, .int .u8 0, [none]⟩ := rfl
@[simp] theorem ty_69 : ty 69 = some ⟨.int .u8, 1, 1, .int .u8 0, [none]⟩ := rfl
@[simp] theorem ty_70 : ty 70 = some ⟨.other, 1, 8, .nilf, [none]⟩ := rfl
@[simp] theorem ty_71 : ty 71 = some ⟨.other, 1, 8, .any, [none]⟩ := rfl
@[simp] theorem ty_72 : ty 72 = some ⟨.int .i32, 1, 4, .int .i32 0, [none]⟩ := rfl
@[simp] theorem ty_73 : ty 73 = some ⟨.int .i32, 1, 4, .int .i32 0, [none]⟩ := rfl
end Go.Proofs.Ytdcidpgabhbhbaa
