import Derived.Test.YtjkpbhjppjamnaaWb
import Derived.Test.YtjkpbhjppjamnaaTyb
import Derived.Test.YtjkpbhjppjamnaaBkq
import Derived.Test.YtjkpbhjppjamnaaBsrt
import Derived.Test.YtjkpbhjppjamnaaBbk
import Derived.Test.YtjkpbhjppjamnaaBbk2
import Derived.Test.YtjkpbhjppjamnaaBbk3
import Derived.Test.YtjkpbhjppjamnaaBbits
import Derived.Test.YtjkpbhjppjamnaaBrd
import Derived.Test.YtjkpbhjppjamnaaBrdq
import Derived.Test.YtjkpbhjppjamnaaBbits2
import Derived.Test.YtjkpbhjppjamnaaBbk4
import Derived.Test.YtjkpbhjppjamnaaBbk5
import Derived.Test.YtjkpbhjppjamnaaBbk6
import Derived.Test.YtjkpbhjppjamnaaBbk7
namespace Go.Proofs.Ytjkpbhjppjamnaa
set_option linter.unusedVariables false
set_option linter.unusedSimpArgs false
set_option maxRecDepth 10000
open Go Go.Pv

open Go.RowKit
theorem al1 : PCall Try.prog 17 [.int .i64 1, .int .i64 40] (.tup [.ro (.ints .i64 [0, 0, 0, 0]), .int .i64 0]) := by
  have := valu_ok 1 (by omega) (by omega) 40 (by decide)
  rw [show bVal 1 40 = [0, 0, 0, 0] from by decide +kernel] at this
  exact this
theorem al2 : PCall Try.prog 19 [.int .i64 7, .ro (.ints .i64 [2, 3])] (.tup [.int .i64 19, .int .i64 0]) := by
  have := ent_ok 7 (by omega) (by omega) [2, 3]
  rw [show entV 7 [2, 3] = 19 from by decide +kernel, show entE 7 [2, 3] = 0 from by decide +kernel] at this
  exact this
theorem al3 : PCall Try.prog 15 [.int .i64 12] (.tup [bookV 12, .int .i64 0]) := by
  exact get_book 12 (by omega) (by omega)
theorem al4 : PCall Try.prog 11 [bookV 12, .int .i64 60] (.tup [.ro (.ints .u8 [1]), .int .i64 0]) := by
  have := code_ok 12 (by omega) (by omega) 60 (by decide)
  rw [show codeL (bPlain 12) ((bRk 12)[60]?.getD 0) = [1] from by decide +kernel] at this
  exact this
theorem al5 : PCall Try.prog 11 [bookV 12, .int .i64 59] (.tup [.ro (.ints .u8 [0, 1, 0]), .int .i64 0]) := by
  have := code_ok 12 (by omega) (by omega) 59 (by decide)
  rw [show codeL (bPlain 12) ((bRk 12)[59]?.getD 0) = [0, 1, 0] from by decide +kernel] at this
  exact this
theorem al6 : PCall Try.prog 11 [bookV 12, .int .i64 61] (.tup [.ro (.ints .u8 [0, 1, 1]), .int .i64 0]) := by
  have := code_ok 12 (by omega) (by omega) 61 (by decide)
  rw [show codeL (bPlain 12) ((bRk 12)[61]?.getD 0) = [0, 1, 1] from by decide +kernel] at this
  exact this
theorem al7 : PCall Try.prog 11 [bookV 2, .int .i64 40] (.tup [.ro (.ints .u8 [1, 0]), .int .i64 0]) := by
  have := code_ok 2 (by omega) (by omega) 40 (by decide)
  rw [show codeL (bPlain 2) ((bRk 2)[40]?.getD 0) = [1, 0] from by decide +kernel] at this
  exact this

attribute [local simp] runs gd step1 need evu un opnds opv ev cst cst1 cstL getT getH putT onL nxt argT cellsOf PV.one thn inBlk jmp fldP ldP ldC live Cells.len Cells.get Cells.w sug ldv bin eqF eq1 ops2 sh2 binv Tk.agg stC apC rdS apS mvL zp argsP idx fillP toInts chunks mkC ixS ixA oidx slP sl0 slA optL List.append mxF bltn frzA frz frzL frz1 pur1 Cells.pur PV.scal scal1 runD rdO PV.ids id1 zids ety Eff.on cnd minb and1b ifmax ifmin mxv sugI strv w0 w1 w2 wm1
theorem alive_ok  : PCall Try.prog 23 [] (.bool true) := by
  refine pcall_body ty_ok Try.func23 rfl (by rfl) (by simp) ?_
  rw [Try.ntmps23]
  refine swp_seq fun K1 hK1 => ?_
  refine swp_region ty_ok ?_
  try simp (maxSteps := 1000000) [bookV]
  repeat' (first | apply And.intro | intro _)
  any_goals (first | (refine hK1 _ ?_; clear hK1) | (first | omega | (simp only [IntKind.wrap_i64] at *; omega) | (simp_all; done) | (simp_all; omega)))
  refine swp_seq fun K2 hK2 => ?_
  refine swp_region ty_ok ?_
  refine runs_cut 1 fun R3 hR3 => ?_
  try simp (maxSteps := 1000000) [bookV, List.take_succ_cons, List.take_zero, List.drop_succ_cons, List.drop_zero]
  refine .inl ⟨_, al1, ?_⟩
  try simp (maxSteps := 1000000) [bookV]
  repeat' (first | apply And.intro | intro _)
  any_goals (first | (refine hR3 _ ?_; clear hR3) | (first | omega | (simp only [IntKind.wrap_i64] at *; omega) | (simp_all; done) | (simp_all; omega)))
  try simp (maxSteps := 1000000) [bookV, List.take_succ_cons, List.take_zero, List.drop_succ_cons, List.drop_zero]
  repeat' (first | apply And.intro | intro _)
  any_goals (first | (refine hK2 _ ?_; clear hK2) | (first | omega | (simp only [IntKind.wrap_i64] at *; omega) | (simp_all; done) | (simp_all; omega)))
  refine swp_seq fun K4 hK4 => ?_
  refine swp_region ty_ok ?_
  refine runs_cut 1 fun R5 hR5 => ?_
  try simp (maxSteps := 1000000) [bookV, List.take_succ_cons, List.take_zero, List.drop_succ_cons, List.drop_zero]
  repeat' (first | apply And.intro | intro _)
  any_goals (first | (refine Or.inl (hR5 _ ?_); clear hR5) | (first | omega | (simp only [IntKind.wrap_i64] at *; omega) | (simp_all; done) | (simp_all; omega)))
  refine runs_cut 1 fun R6 hR6 => ?_
  try simp (maxSteps := 1000000) [bookV, List.take_succ_cons, List.take_zero, List.drop_succ_cons, List.drop_zero]
  refine .inl ⟨_, al2, ?_⟩
  try simp (maxSteps := 1000000) [bookV]
  repeat' (first | apply And.intro | intro _)
  any_goals (first | (refine hR6 _ ?_; clear hR6) | (first | omega | (simp only [IntKind.wrap_i64] at *; omega) | (simp_all; done) | (simp_all; omega)))
  try simp (maxSteps := 1000000) [bookV, List.take_succ_cons, List.take_zero, List.drop_succ_cons, List.drop_zero]
  repeat' (first | apply And.intro | intro _)
  any_goals (first | (refine hK4 _ ?_; clear hK4) | (first | omega | (simp only [IntKind.wrap_i64] at *; omega) | (simp_all; done) | (simp_all; omega)))
  refine swp_seq fun K7 hK7 => ?_
  refine swp_region ty_ok ?_
  refine runs_cut 1 fun R8 hR8 => ?_
  try simp (maxSteps := 1000000) [bookV, List.take_succ_cons, List.take_zero, List.drop_succ_cons, List.drop_zero]
  refine .inl ⟨_, al3, ?_⟩
  try simp (maxSteps := 1000000) [bookV]
  repeat' (first | apply And.intro | intro _)
  any_goals (first | (refine hR8 _ ?_; clear hR8) | (first | omega | (simp only [IntKind.wrap_i64] at *; omega) | (simp_all; done) | (simp_all; omega)))
  try simp (maxSteps := 1000000) [bookV, List.take_succ_cons, List.take_zero, List.drop_succ_cons, List.drop_zero]
  repeat' (first | apply And.intro | intro _)
  any_goals (first | (refine hK7 _ ?_; clear hK7) | (first | omega | (simp only [IntKind.wrap_i64] at *; omega) | (simp_all; done) | (simp_all; omega)))
  refine swp_seq fun K9 hK9 => ?_
  refine swp_region ty_ok ?_
  refine runs_cut 1 fun R10 hR10 => ?_
  try simp (maxSteps := 1000000) [bookV, List.take_succ_cons, List.take_zero, List.drop_succ_cons, List.drop_zero]
  repeat' (first | apply And.intro | intro _)
  any_goals (first | (refine hR10 _ ?_; clear hR10) | (first | omega | (simp only [IntKind.wrap_i64] at *; omega) | (simp_all; done) | (simp_all; omega)))
  refine runs_cut 1 fun R11 hR11 => ?_
  try simp (maxSteps := 1000000) [bookV, List.take_succ_cons, List.take_zero, List.drop_succ_cons, List.drop_zero]
  refine .inl ⟨_, al4, ?_⟩
  try simp (maxSteps := 1000000) [bookV]
  repeat' (first | apply And.intro | intro _)
  any_goals (first | (refine hR11 _ ?_; clear hR11) | (first | omega | (simp only [IntKind.wrap_i64] at *; omega) | (simp_all; done) | (simp_all; omega)))
  try simp (maxSteps := 1000000) [bookV, List.take_succ_cons, List.take_zero, List.drop_succ_cons, List.drop_zero]
  repeat' (first | apply And.intro | intro _)
  any_goals (first | (refine hK9 _ ?_; clear hK9) | (first | omega | (simp only [IntKind.wrap_i64] at *; omega) | (simp_all; done) | (simp_all; omega)))
  refine swp_seq fun K12 hK12 => ?_
  refine swp_region ty_ok ?_
  refine runs_cut 1 fun R13 hR13 => ?_
  try simp (maxSteps := 1000000) [bookV, List.take_succ_cons, List.take_zero, List.drop_succ_cons, List.drop_zero]
  repeat' (first | apply And.intro | intro _)
  any_goals (first | (refine hR13 _ ?_; clear hR13) | (first | omega | (simp only [IntKind.wrap_i64] at *; omega) | (simp_all; done) | (simp_all; omega)))
  refine runs_cut 1 fun R14 hR14 => ?_
  try simp (maxSteps := 1000000) [bookV, List.take_succ_cons, List.take_zero, List.drop_succ_cons, List.drop_zero]
  refine .inl ⟨_, al5, ?_⟩
  try simp (maxSteps := 1000000) [bookV]
  repeat' (first | apply And.intro | intro _)
  any_goals (first | (refine hR14 _ ?_; clear hR14) | (first | omega | (simp only [IntKind.wrap_i64] at *; omega) | (simp_all; done) | (simp_all; omega)))
  try simp (maxSteps := 1000000) [bookV, List.take_succ_cons, List.take_zero, List.drop_succ_cons, List.drop_zero]
  repeat' (first | apply And.intro | intro _)
  any_goals (first | (refine hK12 _ ?_; clear hK12) | (first | omega | (simp only [IntKind.wrap_i64] at *; omega) | (simp_all; done) | (simp_all; omega)))
  refine swp_seq fun K15 hK15 => ?_
  refine swp_region ty_ok ?_
  refine runs_cut 4 fun R16 hR16 => ?_
  try simp (maxSteps := 1000000) [bookV, List.take_succ_cons, List.take_zero, List.drop_succ_cons, List.drop_zero]
  repeat' (first | apply And.intro | intro _)
  any_goals (first | (refine hR16 _ ?_; clear hR16) | (first | omega | (simp only [IntKind.wrap_i64] at *; omega) | (simp_all; done) | (simp_all; omega)))
  refine runs_cut 1 fun R17 hR17 => ?_
  try simp (maxSteps := 1000000) [bookV, List.take_succ_cons, List.take_zero, List.drop_succ_cons, List.drop_zero]
  refine .inl ?_
  try simp (maxSteps := 1000000) [bookV, List.take_succ_cons, List.take_zero, List.drop_succ_cons, List.drop_zero]
  repeat' (first | apply And.intro | intro _)
  any_goals (first | (refine hR17 _ ?_; clear hR17) | (first | omega | (simp only [IntKind.wrap_i64] at *; omega) | (simp_all; done) | (simp_all; omega)))
  refine runs_cut 1 fun R18 hR18 => ?_
  try simp (maxSteps := 1000000) [bookV, List.take_succ_cons, List.take_zero, List.drop_succ_cons, List.drop_zero]
  first | refine .inl ⟨_, fun hb => .inl ⟨reedpiperef06_Ints_ok [0, 0, 0, 0] [0, 0, 0, 0] (by simp), rfl⟩, ?_⟩ | refine .inl ⟨_, .inl ⟨reedpiperef06_Ints_ok [0, 0, 0, 0] [0, 0, 0, 0] (by simp), rfl⟩, ?_⟩ | refine .inl ⟨_, fun hb => .inl (reedpiperef06_Ints_ok [0, 0, 0, 0] [0, 0, 0, 0] (by simp)), ?_⟩ | refine .inl ⟨_, .inl (reedpiperef06_Ints_ok [0, 0, 0, 0] [0, 0, 0, 0] (by simp)), ?_⟩ | refine .inl ⟨_, by (intros; exact Or.inl (reedpiperef06_Ints_ok [0, 0, 0, 0] [0, 0, 0, 0] (by simp))), ?_⟩ | refine .inl ⟨_, by (intros; exact Or.inl ⟨reedpiperef06_Ints_ok [0, 0, 0, 0] [0, 0, 0, 0] (by simp), rfl⟩), ?_⟩ | refine .inl ⟨_, fun hb => .inl ⟨_, reedpiperef06_Ints_ok [0, 0, 0, 0] [0, 0, 0, 0] (by simp), by (try simp); exact ⟨rfl, rfl⟩⟩, ?_⟩
  repeat' (first | apply And.intro | intro _)
  any_goals (first | (refine hR18 _ ?_; clear hR18) | (first | omega | (simp only [IntKind.wrap_i64] at *; omega) | (simp_all; done) | (simp_all; omega)))
  refine runs_cut 10 fun R19 hR19 => ?_
  try simp (maxSteps := 1000000) [bookV, List.take_succ_cons, List.take_zero, List.drop_succ_cons, List.drop_zero]
  repeat' (first | apply And.intro | intro _)
  any_goals (first | (refine hR19 _ ?_; clear hR19) | (first | omega | (simp only [IntKind.wrap_i64] at *; omega) | (simp_all; done) | (simp_all; omega)))
  refine runs_cut 11 fun R20 hR20 => ?_
  try simp (maxSteps := 1000000) [bookV, List.take_succ_cons, List.take_zero, List.drop_succ_cons, List.drop_zero]
  repeat' (first | apply And.intro | intro _)
  any_goals (first | (refine hR20 _ ?_; clear hR20) | (first | omega | (simp only [IntKind.wrap_i64] at *; omega) | (simp_all; done) | (simp_all; omega)))
  try simp (maxSteps := 1000000) [bookV, List.take_succ_cons, List.take_zero, List.drop_succ_cons, List.drop_zero]
  repeat' (first | apply And.intro | intro _)
  any_goals (first | (refine hK15 _ ?_; clear hK15) | (first | omega | (simp only [IntKind.wrap_i64] at *; omega) | (simp_all; done) | (simp_all; omega)))
  refine swp_ret ?_
  simp [fnPost, Try.results23, resP, tupOf]
  exact ⟨rfl, rfl⟩

theorem rd12 (b : List Int) (x y z : Int) (hm : b.length ≤ 100) (hp : ∀ k : Nat, 0 ≤ b[k]?.getD 0 ∧ b[k]?.getD 0 ≤ 255) (h1 : fdN (bPlain 12) (bE 12) b 0 = x) (h2 : fdP (bPlain 12) (bE 12) b 0 = y) (h3 : fdE (bPlain 12) (bMany 12) b 0 = z) : PCall Try.prog 13 [bookV 12, .ro (.ints .u8 b), .int .i64 0] (.tup [.int .i64 x, .int .i64 y, .int .i64 z]) := by
  have := read_ok 12 (by omega) (by omega) b 0 (by omega) hp (by omega)
  rw [h1, h2, h3] at this
  exact this
theorem byte_lit {xs : List Int} (h : xs.all (fun x => decide (0 ≤ x ∧ x ≤ 255)) = true) (k : Nat) : 0 ≤ xs[k]?.getD 0 ∧ xs[k]?.getD 0 ≤ 255 := by
  cases hk : xs[k]? with
  | none => exact ⟨by decide, by decide⟩
  | some v => simpa using List.all_eq_true.1 h v (List.mem_of_getElem? hk)
theorem rd1 : PCall Try.prog 13 [bookV 12, .ro (.ints .u8 [0, 1, 1, 1]), .int .i64 0] (.tup [.int .i64 61, .int .i64 3, .int .i64 0]) := rd12 _ _ _ _ (by simp) (byte_lit (by decide)) (by decide +kernel) (by decide +kernel) (by decide +kernel)
theorem rd2 : PCall Try.prog 13 [bookV 12, .ro (.ints .u8 []), .int .i64 0] (.tup [.int .i64 0, .int .i64 0, .int .i64 5]) := rd12 _ _ _ _ (by simp) (byte_lit (by decide)) (by decide +kernel) (by decide +kernel) (by decide +kernel)
theorem rd3 : PCall Try.prog 13 [bookV 12, .ro (.ints .u8 (List.replicate 10 0)), .int .i64 0] (.tup [.int .i64 0, .int .i64 0, .int .i64 8]) := rd12 _ _ _ _ (by simp) (byte_lit (by decide)) (by decide +kernel) (by decide +kernel) (by decide +kernel)
theorem cd0 : PCall Try.prog 11 [.agg [.int .i64 1, .int .i64 0, .ro (.ints .i64 []), .ro (.ints .i64 [])], .int .i64 0] (.tup [.ro (.ints .u8 []), .int .i64 8]) := code_no 1 0 [] [] (by decide +kernel) 0

set_option maxHeartbeats 4000000 in
theorem names_w  : PCall Try.prog 8 [] (.bool true) := by
  refine pcall_body ty_ok Try.func8 rfl (by rfl) (by simp) ?_
  rw [Try.ntmps8]
  refine swp_seq fun K1 hK1 => ?_
  refine swp_region ty_ok ?_
  try simp (maxSteps := 1000000) [bookV]
  repeat' (first | apply And.intro | intro _)
  any_goals (first | (refine hK1 _ ?_; clear hK1) | (first | omega | (simp only [IntKind.wrap_i64] at *; omega) | (simp_all; done) | (simp_all; omega)))
  refine swp_seq fun K2 hK2 => ?_
  refine swp_region ty_ok ?_
  refine runs_cut 1 fun R3 hR3 => ?_
  try simp (maxSteps := 1000000) [bookV, List.take_succ_cons, List.take_zero, List.drop_succ_cons, List.drop_zero]
  refine .inl ⟨_, al3, ?_⟩
  try simp (maxSteps := 1000000) [bookV]
  repeat' (first | apply And.intro | intro _)
  any_goals (first | (refine hR3 _ ?_; clear hR3) | (first | omega | (simp only [IntKind.wrap_i64] at *; omega) | (simp_all; done) | (simp_all; omega)))
  try simp (maxSteps := 1000000) [bookV, List.take_succ_cons, List.take_zero, List.drop_succ_cons, List.drop_zero]
  repeat' (first | apply And.intro | intro _)
  any_goals (first | (refine hK2 _ ?_; clear hK2) | (first | omega | (simp only [IntKind.wrap_i64] at *; omega) | (simp_all; done) | (simp_all; omega)))
  refine swp_seq fun K4 hK4 => ?_
  refine swp_region ty_ok ?_
  refine runs_cut 1 fun R5 hR5 => ?_
  try simp (maxSteps := 1000000) [bookV, List.take_succ_cons, List.take_zero, List.drop_succ_cons, List.drop_zero]
  repeat' (first | apply And.intro | intro _)
  any_goals (first | (refine hR5 _ ?_; clear hR5) | (first | omega | (simp only [IntKind.wrap_i64] at *; omega) | (simp_all; done) | (simp_all; omega)))
  refine runs_cut 1 fun R6 hR6 => ?_
  try simp (maxSteps := 1000000) [bookV, List.take_succ_cons, List.take_zero, List.drop_succ_cons, List.drop_zero]
  refine .inl ⟨_, al6, ?_⟩
  try simp (maxSteps := 1000000) [bookV]
  repeat' (first | apply And.intro | intro _)
  any_goals (first | (refine hR6 _ ?_; clear hR6) | (first | omega | (simp only [IntKind.wrap_i64] at *; omega) | (simp_all; done) | (simp_all; omega)))
  try simp (maxSteps := 1000000) [bookV, List.take_succ_cons, List.take_zero, List.drop_succ_cons, List.drop_zero]
  repeat' (first | apply And.intro | intro _)
  any_goals (first | (refine hK4 _ ?_; clear hK4) | (first | omega | (simp only [IntKind.wrap_i64] at *; omega) | (simp_all; done) | (simp_all; omega)))
  refine swp_seq fun K7 hK7 => ?_
  refine swp_region ty_ok ?_
  refine runs_cut 1 fun R8 hR8 => ?_
  try simp (maxSteps := 1000000) [bookV, List.take_succ_cons, List.take_zero, List.drop_succ_cons, List.drop_zero]
  repeat' (first | apply And.intro | intro _)
  any_goals (first | (refine hR8 _ ?_; clear hR8) | (first | omega | (simp only [IntKind.wrap_i64] at *; omega) | (simp_all; done) | (simp_all; omega)))
  refine runs_cut 1 fun R9 hR9 => ?_
  try simp (maxSteps := 1000000) [bookV, List.take_succ_cons, List.take_zero, List.drop_succ_cons, List.drop_zero]
  repeat' (first | apply And.intro | intro _)
  any_goals (first | (refine Or.inl (hR9 _ ?_); clear hR9) | (first | omega | (simp only [IntKind.wrap_i64] at *; omega) | (simp_all; done) | (simp_all; omega)))
  refine runs_cut 1 fun R10 hR10 => ?_
  try simp (maxSteps := 1000000) [bookV, List.take_succ_cons, List.take_zero, List.drop_succ_cons, List.drop_zero]
  refine .inl ⟨_, rd1, ?_⟩
  try simp (maxSteps := 1000000) [bookV]
  repeat' (first | apply And.intro | intro _)
  any_goals (first | (refine hR10 _ ?_; clear hR10) | (first | omega | (simp only [IntKind.wrap_i64] at *; omega) | (simp_all; done) | (simp_all; omega)))
  try simp (maxSteps := 1000000) [bookV, List.take_succ_cons, List.take_zero, List.drop_succ_cons, List.drop_zero]
  repeat' (first | apply And.intro | intro _)
  any_goals (first | (refine hK7 _ ?_; clear hK7) | (first | omega | (simp only [IntKind.wrap_i64] at *; omega) | (simp_all; done) | (simp_all; omega)))
  refine swp_seq fun K11 hK11 => ?_
  refine swp_region ty_ok ?_
  refine runs_cut 1 fun R12 hR12 => ?_
  try simp (maxSteps := 1000000) [bookV, List.take_succ_cons, List.take_zero, List.drop_succ_cons, List.drop_zero]
  repeat' (first | apply And.intro | intro _)
  any_goals (first | (refine hR12 _ ?_; clear hR12) | (first | omega | (simp only [IntKind.wrap_i64] at *; omega) | (simp_all; done) | (simp_all; omega)))
  refine runs_cut 1 fun R13 hR13 => ?_
  try simp (maxSteps := 1000000) [bookV, List.take_succ_cons, List.take_zero, List.drop_succ_cons, List.drop_zero]
  refine .inl ⟨_, rd2, ?_⟩
  try simp (maxSteps := 1000000) [bookV]
  repeat' (first | apply And.intro | intro _)
  any_goals (first | (refine hR13 _ ?_; clear hR13) | (first | omega | (simp only [IntKind.wrap_i64] at *; omega) | (simp_all; done) | (simp_all; omega)))
  try simp (maxSteps := 1000000) [bookV, List.take_succ_cons, List.take_zero, List.drop_succ_cons, List.drop_zero]
  repeat' (first | apply And.intro | intro _)
  any_goals (first | (refine hK11 _ ?_; clear hK11) | (first | omega | (simp only [IntKind.wrap_i64] at *; omega) | (simp_all; done) | (simp_all; omega)))
  refine swp_seq fun K14 hK14 => ?_
  refine swp_draw ty_ok mixed (ms := [0, 0, 3, 7, 15, 15, 15, 31, 191, 511]) (by kernel_rfl) ?_
  refine runD_cut 1 fun R15 hR15 => ?_
  try simp (maxSteps := 1000000) [bookV, List.take_succ_cons, List.take_zero, List.drop_succ_cons, List.drop_zero]
  repeat' (first | apply And.intro | intro _)
  any_goals (first | (refine hR15 _ _ _ _ ?_; clear hR15) | (first | omega | (simp only [IntKind.wrap_i64] at *; omega) | (simp_all; done) | (simp_all; omega)))
  refine runD_cut 1 fun R16 hR16 => ?_
  try simp (maxSteps := 1000000) [bookV, List.take_succ_cons, List.take_zero, List.drop_succ_cons, List.drop_zero]
  repeat' (first | apply And.intro | intro _)
  any_goals (first | (refine Or.inl (hR16 _ _ _ _ ?_); clear hR16) | (first | omega | (simp only [IntKind.wrap_i64] at *; omega) | (simp_all; done) | (simp_all; omega)))
  refine runD_cut 1 fun R17 hR17 => ?_
  try simp (maxSteps := 1000000) [bookV, List.take_succ_cons, List.take_zero, List.drop_succ_cons, List.drop_zero]
  refine .inl ⟨_, rd3, ?_⟩
  try simp (maxSteps := 1000000) [bookV]
  repeat' (first | apply And.intro | intro _)
  any_goals (first | (refine hR17 _ _ _ _ ?_; clear hR17) | (first | omega | (simp only [IntKind.wrap_i64] at *; omega) | (simp_all; done) | (simp_all; omega)))
  try simp (maxSteps := 1000000) [bookV, List.take_succ_cons, List.take_zero, List.drop_succ_cons, List.drop_zero]
  repeat' (first | apply And.intro | intro _)
  any_goals (first | kernel_rfl | (refine hK14 _ ?_; clear hK14) | (first | omega | (simp only [IntKind.wrap_i64] at *; omega) | (simp_all; done) | (simp_all; omega)))
  refine swp_seq fun K19 hK19 => ?_
  refine swp_region ty_ok ?_
  refine runs_cut 1 fun R20 hR20 => ?_
  try simp (maxSteps := 1000000) [bookV, List.take_succ_cons, List.take_zero, List.drop_succ_cons, List.drop_zero]
  refine .inl ⟨_, get_book 2 (by omega) (by omega), ?_⟩
  try simp (maxSteps := 1000000) [bookV]
  repeat' (first | apply And.intro | intro _)
  any_goals (first | (refine hR20 _ ?_; clear hR20) | (first | omega | (simp only [IntKind.wrap_i64] at *; omega) | (simp_all; done) | (simp_all; omega)))
  try simp (maxSteps := 1000000) [bookV, List.take_succ_cons, List.take_zero, List.drop_succ_cons, List.drop_zero]
  repeat' (first | apply And.intro | intro _)
  any_goals (first | (refine hK19 _ ?_; clear hK19) | (first | omega | (simp only [IntKind.wrap_i64] at *; omega) | (simp_all; done) | (simp_all; omega)))
  refine swp_seq fun K21 hK21 => ?_
  refine swp_region ty_ok ?_
  refine runs_cut 1 fun R22 hR22 => ?_
  try simp (maxSteps := 1000000) [bookV, List.take_succ_cons, List.take_zero, List.drop_succ_cons, List.drop_zero]
  repeat' (first | apply And.intro | intro _)
  any_goals (first | (refine hR22 _ ?_; clear hR22) | (first | omega | (simp only [IntKind.wrap_i64] at *; omega) | (simp_all; done) | (simp_all; omega)))
  refine runs_cut 1 fun R23 hR23 => ?_
  try simp (maxSteps := 1000000) [bookV, List.take_succ_cons, List.take_zero, List.drop_succ_cons, List.drop_zero]
  refine .inl ⟨_, al7, ?_⟩
  try simp (maxSteps := 1000000) [bookV]
  repeat' (first | apply And.intro | intro _)
  any_goals (first | (refine hR23 _ ?_; clear hR23) | (first | omega | (simp only [IntKind.wrap_i64] at *; omega) | (simp_all; done) | (simp_all; omega)))
  try simp (maxSteps := 1000000) [bookV, List.take_succ_cons, List.take_zero, List.drop_succ_cons, List.drop_zero]
  repeat' (first | apply And.intro | intro _)
  any_goals (first | (refine hK21 _ ?_; clear hK21) | (first | omega | (simp only [IntKind.wrap_i64] at *; omega) | (simp_all; done) | (simp_all; omega)))
  refine swp_seq fun K24 hK24 => ?_
  refine swp_region ty_ok ?_
  refine runs_cut 1 fun R25 hR25 => ?_
  try simp (maxSteps := 1000000) [bookV, List.take_succ_cons, List.take_zero, List.drop_succ_cons, List.drop_zero]
  refine .inl ⟨_, get_bno 13 (by omega), ?_⟩
  try simp (maxSteps := 1000000) [bookV]
  repeat' (first | apply And.intro | intro _)
  any_goals (first | (refine hR25 _ ?_; clear hR25) | (first | omega | (simp only [IntKind.wrap_i64] at *; omega) | (simp_all; done) | (simp_all; omega)))
  try simp (maxSteps := 1000000) [bookV, List.take_succ_cons, List.take_zero, List.drop_succ_cons, List.drop_zero]
  repeat' (first | apply And.intro | intro _)
  any_goals (first | (refine hK24 _ ?_; clear hK24) | (first | omega | (simp only [IntKind.wrap_i64] at *; omega) | (simp_all; done) | (simp_all; omega)))
  refine swp_seq fun K26 hK26 => ?_
  refine swp_region ty_ok ?_
  refine runs_cut 1 fun R27 hR27 => ?_
  try simp (maxSteps := 1000000) [bookV, List.take_succ_cons, List.take_zero, List.drop_succ_cons, List.drop_zero]
  repeat' (first | apply And.intro | intro _)
  any_goals (first | (refine hR27 _ ?_; clear hR27) | (first | omega | (simp only [IntKind.wrap_i64] at *; omega) | (simp_all; done) | (simp_all; omega)))
  refine runs_cut 1 fun R28 hR28 => ?_
  try simp (maxSteps := 1000000) [bookV, List.take_succ_cons, List.take_zero, List.drop_succ_cons, List.drop_zero]
  refine .inl ⟨_, cd0, ?_⟩
  try simp (maxSteps := 1000000) [bookV]
  repeat' (first | apply And.intro | intro _)
  any_goals (first | (refine hR28 _ ?_; clear hR28) | (first | omega | (simp only [IntKind.wrap_i64] at *; omega) | (simp_all; done) | (simp_all; omega)))
  try simp (maxSteps := 1000000) [bookV, List.take_succ_cons, List.take_zero, List.drop_succ_cons, List.drop_zero]
  repeat' (first | apply And.intro | intro _)
  any_goals (first | (refine hK26 _ ?_; clear hK26) | (first | omega | (simp only [IntKind.wrap_i64] at *; omega) | (simp_all; done) | (simp_all; omega)))
  refine swp_seq fun K29 hK29 => ?_
  refine swp_region ty_ok ?_
  refine runs_cut 10 fun R30 hR30 => ?_
  try simp (maxSteps := 1000000) [bookV, List.take_succ_cons, List.take_zero, List.drop_succ_cons, List.drop_zero]
  repeat' (first | apply And.intro | intro _)
  any_goals (first | (refine hR30 _ ?_; clear hR30) | (first | omega | (simp only [IntKind.wrap_i64] at *; omega) | (simp_all; done) | (simp_all; omega)))
  refine runs_cut 11 fun R31 hR31 => ?_
  try simp (maxSteps := 1000000) [bookV, List.take_succ_cons, List.take_zero, List.drop_succ_cons, List.drop_zero]
  repeat' (first | apply And.intro | intro _)
  any_goals (first | (refine hR31 _ ?_; clear hR31) | (first | omega | (simp only [IntKind.wrap_i64] at *; omega) | (simp_all; done) | (simp_all; omega)))
  try simp (maxSteps := 1000000) [bookV, List.take_succ_cons, List.take_zero, List.drop_succ_cons, List.drop_zero]
  repeat' (first | apply And.intro | intro _)
  any_goals (first | (refine hK29 _ ?_; clear hK29) | (first | omega | (simp only [IntKind.wrap_i64] at *; omega) | (simp_all; done) | (simp_all; omega)))
  refine swp_seq fun K32 hK32 => ?_
  refine swp_region ty_ok ?_
  refine runs_cut 1 fun R33 hR33 => ?_
  try simp (maxSteps := 1000000) [bookV, List.take_succ_cons, List.take_zero, List.drop_succ_cons, List.drop_zero]
  repeat' (first | apply And.intro | intro _)
  any_goals (first | (refine hR33 _ ?_; clear hR33) | (first | omega | (simp only [IntKind.wrap_i64] at *; omega) | (simp_all; done) | (simp_all; omega)))
  refine runs_cut 1 fun R34 hR34 => ?_
  try simp (maxSteps := 1000000) [bookV, List.take_succ_cons, List.take_zero, List.drop_succ_cons, List.drop_zero]
  first | refine .inl ⟨_, fun hb => .inl ⟨alive_ok, rfl⟩, ?_⟩ | refine .inl ⟨_, .inl ⟨alive_ok, rfl⟩, ?_⟩ | refine .inl ⟨_, fun hb => .inl (alive_ok), ?_⟩ | refine .inl ⟨_, .inl (alive_ok), ?_⟩ | refine .inl ⟨_, by (intros; exact Or.inl (alive_ok)), ?_⟩ | refine .inl ⟨_, by (intros; exact Or.inl ⟨alive_ok, rfl⟩), ?_⟩ | refine .inl ⟨_, fun hb => .inl ⟨_, alive_ok, by (try simp); exact ⟨rfl, rfl⟩⟩, ?_⟩
  repeat' (first | apply And.intro | intro _)
  any_goals (first | (refine hR34 _ ?_; clear hR34) | (first | omega | (simp only [IntKind.wrap_i64] at *; omega) | (simp_all; done) | (simp_all; omega)))
  refine runs_cut 8 fun R35 hR35 => ?_
  try simp (maxSteps := 1000000) [bookV, List.take_succ_cons, List.take_zero, List.drop_succ_cons, List.drop_zero]
  repeat' (first | apply And.intro | intro _)
  any_goals (first | (refine hR35 _ ?_; clear hR35) | (first | omega | (simp only [IntKind.wrap_i64] at *; omega) | (simp_all; done) | (simp_all; omega)))
  refine runs_cut 9 fun R36 hR36 => ?_
  try simp (maxSteps := 1000000) [bookV, List.take_succ_cons, List.take_zero, List.drop_succ_cons, List.drop_zero]
  repeat' (first | apply And.intro | intro _)
  any_goals (first | (refine hR36 _ ?_; clear hR36) | (first | omega | (simp only [IntKind.wrap_i64] at *; omega) | (simp_all; done) | (simp_all; omega)))
  try simp (maxSteps := 1000000) [bookV, List.take_succ_cons, List.take_zero, List.drop_succ_cons, List.drop_zero]
  repeat' (first | apply And.intro | intro _)
  any_goals (first | (refine hK32 _ ?_; clear hK32) | (first | omega | (simp only [IntKind.wrap_i64] at *; omega) | (simp_all; done) | (simp_all; omega)))
  refine swp_ret ?_
  simp [fnPost, Try.results8, resP, tupOf]
  exact ⟨rfl, rfl⟩

end Go.Proofs.Ytjkpbhjppjamnaa

