import Derived.Test.YtjkpbhjppjamnaaWb
import Derived.Test.YtjkpbhjppjamnaaTyb
import Derived.Test.YtjkpbhjppjamnaaBkq
import Derived.Test.YtjkpbhjppjamnaaBsrt
import Derived.Test.YtjkpbhjppjamnaaBbk
import Derived.Test.YtjkpbhjppjamnaaBbk2
import Derived.Test.YtjkpbhjppjamnaaBbk3
import Derived.Test.YtjkpbhjppjamnaaBbits
import Derived.Test.YtjkpbhjppjamnaaBrd
import Derived.Test.YtjkpbhjppjamnaaBrdq
import Derived.Test.YtjkpbhjppjamnaaBbits2
import Derived.Test.YtjkpbhjppjamnaaBbk4
import Derived.Test.YtjkpbhjppjamnaaBbk5
import Derived.Test.YtjkpbhjppjamnaaBbk6
import Derived.Test.YtjkpbhjppjamnaaBbk7
namespace Go.Proofs.Ytjkpbhjppjamnaa
set_option linter.unusedVariables false
set_option linter.unusedSimpArgs false
set_option maxRecDepth 10000
open Go Go.Pv

open Go.RowKit
theorem al1 : PCall Try.prog 17 [.int .i64 1, .int .i64 40] (.tup [.ro (.ints .i64 [0, 0, 0, 0]), .int .i64 0]) := by
  have := valu_ok 1 (by omega) (by omega) 40 (by decide)
  rw [show bVal 1 40 = [0, 0, 0, 0] from by decide +kernel] at this
  exact this
theorem al2 : PCall Try.prog 19 [.int .i64 7, .ro (.ints .i64 [2, 3])] (.tup [.int .i64 19, .int .i64 0]) := by
  have := ent_ok 7 (by omega) (by omega) [2, 3]
  rw [show entV 7 [2, 3] = 19 from by decide +kernel, show entE 7 [2, 3] = 0 from by decide +kernel] at this
  exact this
theorem al3 : PCall Try.prog 15 [.int .i64 12] (.tup [bookV 12, .int .i64 0]) := by
  exact get_book 12 (by omega) (by omega)
theorem al4 : PCall Try.prog 11 [bookV 12, .int .i64 60] (.tup [.ro (.ints .u8 [1]), .int .i64 0]) := by
  have := code_ok 12 (by omega) (by omega) 60 (by decide)
  rw [show codeL (bPlain 12) ((bRk 12)[60]?.getD 0) = [1] from by decide +kernel] at this
  exact this
theorem al5 : PCall Try.prog 11 [bookV 12, .int .i64 59] (.tup [.ro (.ints .u8 [0, 1, 0]), .int .i64 0]) := by
  have := code_ok 12 (by omega) (by omega) 59 (by decide)
  rw [show codeL (bPlain 12) ((bRk 12)[59]?.getD 0) = [0, 1, 0] from by decide +kernel] at this
  exact this
attribute [local simp] runs gd step1 need evu un opnds opv ev cst cst1 cstL getT getH putT onL nxt argT cellsOf PV.one thn inBlk jmp fldP ldP ldC live Cells.len Cells.get Cells.w sug ldv bin eqF eq1 ops2 sh2 binv Tk.agg stC apC rdS apS mvL zp argsP idx fillP toInts chunks mkC ixS ixA oidx slP sl0 slA optL List.append mxF bltn frzA frz frzL frz1 pur1 Cells.pur PV.scal scal1 runD rdO PV.ids id1 zids ety Eff.on cnd minb and1b ifmax ifmin mxv sugI strv w0 w1 w2 wm1
theorem alive_ok  : PCall Try.prog 23 [] (.bool true) := by
  refine pcall_body ty_ok Try.func23 rfl (by rfl) (by simp) ?_
  rw [Try.ntmps23]
  refine swp_seq fun K1 hK1 => ?_
  refine swp_region ty_ok ?_
  try simp (maxSteps := 1000000) [bookV]
  repeat' (first | apply And.intro | intro _)
  any_goals (first | (refine hK1 _ ?_; clear hK1) | (first | omega | (simp only [IntKind.wrap_i64] at *; omega) | (simp_all; done) | (simp_all; omega)))
  refine swp_seq fun K2 hK2 => ?_
  refine swp_region ty_ok ?_
  refine runs_cut 1 fun R3 hR3 => ?_
  try simp (maxSteps := 1000000) [bookV, List.take_succ_cons, List.take_zero, List.drop_succ_cons, List.drop_zero]
  refine .inl ⟨_, al1, ?_⟩
  try simp (maxSteps := 1000000) [bookV]
  repeat' (first | apply And.intro | intro _)
  any_goals (first | (refine hR3 _ ?_; clear hR3) | (first | omega | (simp only [IntKind.wrap_i64] at *; omega) | (simp_all; done) | (simp_all; omega)))
  try simp (maxSteps := 1000000) [bookV, List.take_succ_cons, List.take_zero, List.drop_succ_cons, List.drop_zero]
  repeat' (first | apply And.intro | intro _)
  any_goals (first | (refine hK2 _ ?_; clear hK2) | (first | omega | (simp only [IntKind.wrap_i64] at *; omega) | (simp_all; done) | (simp_all; omega)))
  refine swp_seq fun K4 hK4 => ?_
  refine swp_region ty_ok ?_
  refine runs_cut 1 fun R5 hR5 => ?_
  try simp (maxSteps := 1000000) [bookV, List.take_succ_cons, List.take_zero, List.drop_succ_cons, List.drop_zero]
  repeat' (first | apply And.intro | intro _)
  any_goals (first | (refine Or.inl (hR5 _ ?_); clear hR5) | (first | omega | (simp only [IntKind.wrap_i64] at *; omega) | (simp_all; done) | (simp_all; omega)))
  refine runs_cut 1 fun R6 hR6 => ?_
  try simp (maxSteps := 1000000) [bookV, List.take_succ_cons, List.take_zero, List.drop_succ_cons, List.drop_zero]
  refine .inl ⟨_, al2, ?_⟩
  try simp (maxSteps := 1000000) [bookV]
  repeat' (first | apply And.intro | intro _)
  any_goals (first | (refine hR6 _ ?_; clear hR6) | (first | omega | (simp only [IntKind.wrap_i64] at *; omega) | (simp_all; done) | (simp_all; omega)))
  try simp (maxSteps := 1000000) [bookV, List.take_succ_cons, List.take_zero, List.drop_succ_cons, List.drop_zero]
  repeat' (first | apply And.intro | intro _)
  any_goals (first | (refine hK4 _ ?_; clear hK4) | (first | omega | (simp only [IntKind.wrap_i64] at *; omega) | (simp_all; done) | (simp_all; omega)))
  refine swp_seq fun K7 hK7 => ?_
  refine swp_region ty_ok ?_
  refine runs_cut 1 fun R8 hR8 => ?_
  try simp (maxSteps := 1000000) [bookV, List.take_succ_cons, List.take_zero, List.drop_succ_cons, List.drop_zero]
  refine .inl ⟨_, al3, ?_⟩
  try simp (maxSteps := 1000000) [bookV]
  repeat' (first | apply And.intro | intro _)
  any_goals (first | (refine hR8 _ ?_; clear hR8) | (first | omega | (simp only [IntKind.wrap_i64] at *; omega) | (simp_all; done) | (simp_all; omega)))
  try simp (maxSteps := 1000000) [bookV, List.take_succ_cons, List.take_zero, List.drop_succ_cons, List.drop_zero]
  repeat' (first | apply And.intro | intro _)
  any_goals (first | (refine hK7 _ ?_; clear hK7) | (first | omega | (simp only [IntKind.wrap_i64] at *; omega) | (simp_all; done) | (simp_all; omega)))
  refine swp_seq fun K9 hK9 => ?_
  refine swp_region ty_ok ?_
  refine runs_cut 1 fun R10 hR10 => ?_
  try simp (maxSteps := 1000000) [bookV, List.take_succ_cons, List.take_zero, List.drop_succ_cons, List.drop_zero]
  repeat' (first | apply And.intro | intro _)
  any_goals (first | (refine hR10 _ ?_; clear hR10) | (first | omega | (simp only [IntKind.wrap_i64] at *; omega) | (simp_all; done) | (simp_all; omega)))
  refine runs_cut 1 fun R11 hR11 => ?_
  try simp (maxSteps := 1000000) [bookV, List.take_succ_cons, List.take_zero, List.drop_succ_cons, List.drop_zero]
  refine .inl ⟨_, al4, ?_⟩
  try simp (maxSteps := 1000000) [bookV]
  repeat' (first | apply And.intro | intro _)
  any_goals (first | (refine hR11 _ ?_; clear hR11) | (first | omega | (simp only [IntKind.wrap_i64] at *; omega) | (simp_all; done) | (simp_all; omega)))
  try simp (maxSteps := 1000000) [bookV, List.take_succ_cons, List.take_zero, List.drop_succ_cons, List.drop_zero]
  repeat' (first | apply And.intro | intro _)
  any_goals (first | (refine hK9 _ ?_; clear hK9) | (first | omega | (simp only [IntKind.wrap_i64] at *; omega) | (simp_all; done) | (simp_all; omega)))
  refine swp_seq fun K12 hK12 => ?_
  refine swp_region ty_ok ?_
  refine runs_cut 1 fun R13 hR13 => ?_
  try simp (maxSteps := 1000000) [bookV, List.take_succ_cons, List.take_zero, List.drop_succ_cons, List.drop_zero]
  repeat' (first | apply And.intro | intro _)
  any_goals (first | (refine hR13 _ ?_; clear hR13) | (first | omega | (simp only [IntKind.wrap_i64] at *; omega) | (simp_all; done) | (simp_all; omega)))
  refine runs_cut 1 fun R14 hR14 => ?_
  try simp (maxSteps := 1000000) [bookV, List.take_succ_cons, List.take_zero, List.drop_succ_cons, List.drop_zero]
  refine .inl ⟨_, al5, ?_⟩
  try simp (maxSteps := 1000000) [bookV]
  repeat' (first | apply And.intro | intro _)
  any_goals (first | (refine hR14 _ ?_; clear hR14) | (first | omega | (simp only [IntKind.wrap_i64] at *; omega) | (simp_all; done) | (simp_all; omega)))
  try simp (maxSteps := 1000000) [bookV, List.take_succ_cons, List.take_zero, List.drop_succ_cons, List.drop_zero]
  repeat' (first | apply And.intro | intro _)
  any_goals (first | (refine hK12 _ ?_; clear hK12) | (first | omega | (simp only [IntKind.wrap_i64] at *; omega) | (simp_all; done) | (simp_all; omega)))
  refine swp_seq fun K15 hK15 => ?_
  refine swp_region ty_ok ?_
  refine runs_cut 4 fun R16 hR16 => ?_
  try simp (maxSteps := 1000000) [bookV, List.take_succ_cons, List.take_zero, List.drop_succ_cons, List.drop_zero]
  repeat' (first | apply And.intro | intro _)
  any_goals (first | (refine hR16 _ ?_; clear hR16) | (first | omega | (simp only [IntKind.wrap_i64] at *; omega) | (simp_all; done) | (simp_all; omega)))
  refine runs_cut 1 fun R17 hR17 => ?_
  try simp (maxSteps := 1000000) [bookV, List.take_succ_cons, List.take_zero, List.drop_succ_cons, List.drop_zero]
  refine .inl ?_
  try simp (maxSteps := 1000000) [bookV, List.take_succ_cons, List.take_zero, List.drop_succ_cons, List.drop_zero]
  repeat' (first | apply And.intro | intro _)
  any_goals (first | (refine hR17 _ ?_; clear hR17) | (first | omega | (simp only [IntKind.wrap_i64] at *; omega) | (simp_all; done) | (simp_all; omega)))
  refine runs_cut 1 fun R18 hR18 => ?_
  try simp (maxSteps := 1000000) [bookV, List.take_succ_cons, List.take_zero, List.drop_succ_cons, List.drop_zero]
  first | refine .inl ⟨_, fun hb => .inl ⟨reedpiperef06_Ints_ok [0, 0, 0, 0] [0, 0, 0, 0] (by simp), rfl⟩, ?_⟩ | refine .inl ⟨_, .inl ⟨reedpiperef06_Ints_ok [0, 0, 0, 0] [0, 0, 0, 0] (by simp), rfl⟩, ?_⟩ | refine .inl ⟨_, fun hb => .inl (reedpiperef06_Ints_ok [0, 0, 0, 0] [0, 0, 0, 0] (by simp)), ?_⟩ | refine .inl ⟨_, .inl (reedpiperef06_Ints_ok [0, 0, 0, 0] [0, 0, 0, 0] (by simp)), ?_⟩ | refine .inl ⟨_, by (intros; exact Or.inl (reedpiperef06_Ints_ok [0, 0, 0, 0] [0, 0, 0, 0] (by simp))), ?_⟩ | refine .inl ⟨_, by (intros; exact Or.inl ⟨reedpiperef06_Ints_ok [0, 0, 0, 0] [0, 0, 0, 0] (by simp), rfl⟩), ?_⟩ | refine .inl ⟨_, fun hb => .inl ⟨_, reedpiperef06_Ints_ok [0, 0, 0, 0] [0, 0, 0, 0] (by simp), by (try simp); exact ⟨rfl, rfl⟩⟩, ?_⟩
  repeat' (first | apply And.intro | intro _)
  any_goals (first | (refine hR18 _ ?_; clear hR18) | (first | omega | (simp only [IntKind.wrap_i64] at *; omega) | (simp_all; done) | (simp_all; omega)))
  refine runs_cut 10 fun R19 hR19 => ?_
  try simp (maxSteps := 1000000) [bookV, List.take_succ_cons, List.take_zero, List.drop_succ_cons, List.drop_zero]
  repeat' (first | apply And.intro | intro _)
  any_goals (first | (refine hR19 _ ?_; clear hR19) | (first | omega | (simp only [IntKind.wrap_i64] at *; omega) | (simp_all; done) | (simp_all; omega)))
  refine runs_cut 11 fun R20 hR20 => ?_
  try simp (maxSteps := 1000000) [bookV, List.take_succ_cons, List.take_zero, List.drop_succ_cons, List.drop_zero]
  repeat' (first | apply And.intro | intro _)
  any_goals (first | (refine hR20 _ ?_; clear hR20) | (first | omega | (simp only [IntKind.wrap_i64] at *; omega) | (simp_all; done) | (simp_all; omega)))
  try simp (maxSteps := 1000000) [bookV, List.take_succ_cons, List.take_zero, List.drop_succ_cons, List.drop_zero]
  repeat' (first | apply And.intro | intro _)
  any_goals (first | (refine hK15 _ ?_; clear hK15) | (first | omega | (simp only [IntKind.wrap_i64] at *; omega) | (simp_all; done) | (simp_all; omega)))
  refine swp_ret ?_
  simp [fnPost, Try.results23, resP, tupOf]
  exact ⟨rfl, rfl⟩

set_option maxHeartbeats 2000000 in
theorem entries_a (i : Nat) (h1 : 1 ≤ i) (h2 : i ≤ 12) (e : Nat) (he : e < bMany i) (vs : List Int) : PCall Try.prog 5 [.int .i64 (i : Nat), .int .i64 (e : Nat), .ro (.ints .i64 vs)] (.bool true) := by
  have hB := bk_ok h1 h2
  have hdim := hB.dim
  have hlow := hB.low
  have hhigh := hB.high
  have hwide := hB.wide
  have hmany := hB.many
  have hplain := hB.plain
  obtain ⟨v1, v2⟩ := bVal_ok hB e he
  refine pcall_body ty_ok Try.func5 rfl (by rfl) (by simp) ?_
  rw [Try.ntmps5]
  refine swp_seq fun K1 hK1 => ?_
  refine swp_region ty_ok ?_
  try simp (maxSteps := 1000000)
  repeat' (first | apply And.intro | intro _)
  any_goals (first | (refine hK1 _ ?_; clear hK1) | (first | omega | (simp only [IntKind.wrap_i64] at *; omega) | (simp_all; done) | (simp_all; omega)))
  refine swp_seq fun K2 hK2 => ?_
  refine swp_region ty_ok ?_
  refine runs_cut 1 fun R3 hR3 => ?_
  try simp (maxSteps := 1000000) [List.take_succ_cons, List.take_zero, List.drop_succ_cons, List.drop_zero]
  refine .inl ⟨_, alive_ok, ?_⟩
  try simp (maxSteps := 1000000)
  repeat' (first | apply And.intro | intro _)
  any_goals (first | (refine hR3 _ ?_; clear hR3) | (first | omega | (simp only [IntKind.wrap_i64] at *; omega) | (simp_all; done) | (simp_all; omega)))
  try simp (maxSteps := 1000000) [List.take_succ_cons, List.take_zero, List.drop_succ_cons, List.drop_zero]
  repeat' (first | apply And.intro | intro _)
  any_goals (first | (refine hK2 _ ?_; clear hK2) | (first | omega | (simp only [IntKind.wrap_i64] at *; omega) | (simp_all; done) | (simp_all; omega)))
  refine swp_seq fun K4 hK4 => ?_
  refine swp_seq fun K5 hK5 => ?_
  refine swp_region ty_ok ?_
  try simp (maxSteps := 1000000)
  repeat' (first | apply And.intro | intro _)
  any_goals (first | (refine hK5 _ ?_; clear hK5) | (first | omega | (simp only [IntKind.wrap_i64] at *; omega) | (simp_all; done) | (simp_all; omega)))
  refine swp_if fun C6 hC6 => ?_
  try simp (maxSteps := 1000000)
  refine hC6 _ (fun hc6 => ?_) (fun hc6 => ?_)
  · clear hC6
    try simp at hc6
    refine swp_seq fun K7 hK7 => ?_
    refine swp_region ty_ok ?_
    try simp (maxSteps := 1000000)
    repeat' (first | apply And.intro | intro _)
    any_goals (first | (refine hK7 _ ?_; clear hK7) | (first | omega | (simp only [IntKind.wrap_i64] at *; omega) | (simp_all; done) | (simp_all; omega)))
    refine swp_ret ?_
    simp [fnPost, Try.results5, resP, tupOf]
    skip
  · clear hC6
    try simp at hc6
    refine swp_skip ?_
    try simp only [thn, inBlk]
    refine hK4 _ ?_; clear hK4
    refine swp_seq fun K8 hK8 => ?_
    refine swp_region ty_ok ?_
    refine runs_cut 2 fun R9 hR9 => ?_
    try simp (maxSteps := 1000000) [List.take_succ_cons, List.take_zero, List.drop_succ_cons, List.drop_zero]
    repeat' (first | apply And.intro | intro _)
    any_goals (first | (refine hR9 _ ?_; clear hR9) | (first | omega | (simp only [IntKind.wrap_i64] at *; omega) | (simp_all; done) | (simp_all; omega)))
    refine runs_cut 1 fun R10 hR10 => ?_
    try simp (maxSteps := 1000000) [List.take_succ_cons, List.take_zero, List.drop_succ_cons, List.drop_zero]
    refine .inl ⟨_, valu_ok i h1 h2 e he, ?_⟩
    try simp (maxSteps := 1000000)
    repeat' (first | apply And.intro | intro _)
    any_goals (first | (refine hR10 _ ?_; clear hR10) | (first | omega | (simp only [IntKind.wrap_i64] at *; omega) | (simp_all; done) | (simp_all; omega)))
    try simp (maxSteps := 1000000) [List.take_succ_cons, List.take_zero, List.drop_succ_cons, List.drop_zero]
    repeat' (first | apply And.intro | intro _)
    any_goals (first | (refine hK8 _ ?_; clear hK8) | (first | omega | (simp only [IntKind.wrap_i64] at *; omega) | (simp_all; done) | (simp_all; omega)))
    refine swp_seq fun K11 hK11 => ?_
    refine swp_seq fun K12 hK12 => ?_
    refine swp_region ty_ok ?_
    try simp (maxSteps := 1000000)
    repeat' (first | apply And.intro | intro _)
    any_goals (first | (refine hK12 _ ?_; clear hK12) | (first | omega | (simp only [IntKind.wrap_i64] at *; omega) | (simp_all; done) | (simp_all; omega)))
    refine swp_if fun C13 hC13 => ?_
    try simp (maxSteps := 1000000)
    refine hC13 _ (fun hc13 => ?_) (fun hc13 => ?_)
    · clear hC13
      try simp at hc13
      refine swp_seq fun K14 hK14 => ?_
      refine swp_region ty_ok ?_
      refine runs_cut 2 fun R15 hR15 => ?_
      try simp (maxSteps := 1000000) [List.take_succ_cons, List.take_zero, List.drop_succ_cons, List.drop_zero]
      repeat' (first | apply And.intro | intro _)
      any_goals (first | (refine hR15 _ ?_; clear hR15) | (first | omega | (simp only [IntKind.wrap_i64] at *; omega) | (simp_all; done) | (simp_all; omega)))
      refine runs_cut 1 fun R16 hR16 => ?_
      try simp (maxSteps := 1000000) [List.take_succ_cons, List.take_zero, List.drop_succ_cons, List.drop_zero]
      refine .inl ⟨_, ent_ok i h1 h2 (bVal i e), ?_⟩
      try simp (maxSteps := 1000000)
      repeat' (first | apply And.intro | intro _)
      any_goals (first | (refine hR16 _ ?_; clear hR16) | (first | omega | (simp only [IntKind.wrap_i64] at *; omega) | (simp_all; done) | (simp_all; omega)))
      try simp (maxSteps := 1000000) [List.take_succ_cons, List.take_zero, List.drop_succ_cons, List.drop_zero]
      repeat' (first | apply And.intro | intro _)
      any_goals (first | (refine hK14 _ ?_; clear hK14) | (first | omega | (simp only [IntKind.wrap_i64] at *; omega) | (simp_all; done) | (simp_all; omega)))
      refine swp_seq fun K17 hK17 => ?_
      refine swp_region ty_ok ?_
      try simp (maxSteps := 1000000) [v1, v2]
      repeat' (first | apply And.intro | intro _)
      any_goals (first | (refine hK17 _ ?_; clear hK17) | (first | omega | (simp only [IntKind.wrap_i64] at *; omega) | (simp_all; done) | (simp_all; omega)))
      refine swp_if fun C18 hC18 => ?_
      try simp (maxSteps := 1000000) [v1, v2]
      refine hC18 _ (fun hc18 => ?_) (fun hc18 => ?_)
      · first | exact absurd hc18 (by simp) | (have h := hc18; simp [v1, v2] at h)
      · clear hC18
        try simp at hc18
        refine swp_skip ?_
        try simp only [thn, inBlk]
        refine hK11 _ ?_; clear hK11
        refine swp_seq fun K19 hK19 => ?_
        refine swp_region ty_ok ?_
        refine runs_cut 2 fun R20 hR20 => ?_
        try simp (maxSteps := 1000000) [List.take_succ_cons, List.take_zero, List.drop_succ_cons, List.drop_zero]
        repeat' (first | apply And.intro | intro _)
        any_goals (first | (refine hR20 _ ?_; clear hR20) | (first | omega | (simp only [IntKind.wrap_i64] at *; omega) | (simp_all; done) | (simp_all; omega)))
        refine runs_cut 1 fun R21 hR21 => ?_
        try simp (maxSteps := 1000000) [List.take_succ_cons, List.take_zero, List.drop_succ_cons, List.drop_zero]
        refine .inl ⟨_, ent_ok i h1 h2 vs, ?_⟩
        try simp (maxSteps := 1000000)
        repeat' (first | apply And.intro | intro _)
        any_goals (first | (refine hR21 _ ?_; clear hR21) | (first | omega | (simp only [IntKind.wrap_i64] at *; omega) | (simp_all; done) | (simp_all; omega)))
        try simp (maxSteps := 1000000) [List.take_succ_cons, List.take_zero, List.drop_succ_cons, List.drop_zero]
        repeat' (first | apply And.intro | intro _)
        any_goals (first | (refine hK19 _ ?_; clear hK19) | (first | omega | (simp only [IntKind.wrap_i64] at *; omega) | (simp_all; done) | (simp_all; omega)))
        refine swp_seq fun K22 hK22 => ?_
        refine swp_seq fun K23 hK23 => ?_
        refine swp_region ty_ok ?_
        try simp (maxSteps := 1000000)
        repeat' (first | apply And.intro | intro _)
        any_goals (first | (refine hK23 _ ?_; clear hK23) | (first | omega | (simp only [IntKind.wrap_i64] at *; omega) | (simp_all; done) | (simp_all; omega)))
        refine swp_if fun C24 hC24 => ?_
        try simp (maxSteps := 1000000)
        refine hC24 _ (fun hc24 => ?_) (fun hc24 => ?_)
        · clear hC24
          try simp at hc24
          refine swp_seq fun K25 hK25 => ?_
          have hne : entV i vs = 0 := (by have h := hc24; unfold entV; rw [if_neg h])
          refine swp_region ty_ok ?_
          try simp (maxSteps := 1000000) [hne]
          repeat' (first | apply And.intro | intro _)
          any_goals (first | (refine hK25 _ ?_; clear hK25) | (first | omega | (simp only [IntKind.wrap_i64] at *; omega) | (simp_all; done) | (simp_all; omega)))
          refine swp_ret ?_
          simp [fnPost, Try.results5, resP, tupOf]
          skip
        · clear hC24
          try simp at hc24
          refine swp_skip ?_
          try simp only [thn, inBlk]
          refine hK22 _ ?_; clear hK22
          refine swp_seq fun K26 hK26 => ?_
          have h0 : entE i vs = 0 := (by have h := hc24; omega)
          have hz := entV_ok hB h0
          have hz1 := hz.2.1
          have hz2 := hz.2.2
          refine swp_region ty_ok ?_
          refine runs_cut 2 fun R27 hR27 => ?_
          try simp (maxSteps := 1000000) [hz1, List.take_succ_cons, List.take_zero, List.drop_succ_cons, List.drop_zero]
          repeat' (first | apply And.intro | intro _)
          any_goals (first | (refine hR27 _ ?_; clear hR27) | (first | omega | (simp only [IntKind.wrap_i64] at *; omega) | (simp_all; done) | (simp_all; omega)))
          refine runs_cut 1 fun R28 hR28 => ?_
          try simp (maxSteps := 1000000) [hz1, List.take_succ_cons, List.take_zero, List.drop_succ_cons, List.drop_zero]
          refine .inl ⟨_, valu_ok i h1 h2 (entN i vs) hz.1, ?_⟩
          try simp (maxSteps := 1000000) [hz1]
          repeat' (first | apply And.intro | intro _)
          any_goals (first | (refine hR28 _ ?_; clear hR28) | (first | omega | (simp only [IntKind.wrap_i64] at *; omega) | (simp_all; done) | (simp_all; omega)))
          try simp (maxSteps := 1000000) [hz1, List.take_succ_cons, List.take_zero, List.drop_succ_cons, List.drop_zero]
          repeat' (first | apply And.intro | intro _)
          any_goals (first | (refine hK26 _ ?_; clear hK26) | (first | omega | (simp only [IntKind.wrap_i64] at *; omega) | (simp_all; done) | (simp_all; omega)))
          refine swp_seq fun K29 hK29 => ?_
          refine swp_region ty_ok ?_
          refine runs_cut 5 fun R30 hR30 => ?_
          try simp (maxSteps := 1000000) [hz2, List.take_succ_cons, List.take_zero, List.drop_succ_cons, List.drop_zero]
          repeat' (first | apply And.intro | intro _)
          any_goals (first | (refine hR30 _ ?_; clear hR30) | (first | omega | (simp only [IntKind.wrap_i64] at *; omega) | (simp_all; done) | (simp_all; omega)))
          refine runs_cut 1 fun R31 hR31 => ?_
          try simp (maxSteps := 1000000) [hz2, List.take_succ_cons, List.take_zero, List.drop_succ_cons, List.drop_zero]
          first | refine .inl ⟨_, fun hb => .inl ⟨reedpiperef06_Ints_ok vs vs (by omega), rfl⟩, ?_⟩ | refine .inl ⟨_, .inl ⟨reedpiperef06_Ints_ok vs vs (by omega), rfl⟩, ?_⟩ | refine .inl ⟨_, fun hb => .inl (reedpiperef06_Ints_ok vs vs (by omega)), ?_⟩ | refine .inl ⟨_, .inl (reedpiperef06_Ints_ok vs vs (by omega)), ?_⟩ | refine .inl ⟨_, by (intros; exact Or.inl (reedpiperef06_Ints_ok vs vs (by omega))), ?_⟩ | refine .inl ⟨_, by (intros; exact Or.inl ⟨reedpiperef06_Ints_ok vs vs (by omega), rfl⟩), ?_⟩ | refine .inl ⟨_, fun hb => .inl ⟨_, reedpiperef06_Ints_ok vs vs (by omega), by (try simp); exact ⟨rfl, rfl⟩⟩, ?_⟩
          repeat' (first | apply And.intro | intro _)
          any_goals (first | (refine hR31 _ ?_; clear hR31) | (first | omega | (simp only [IntKind.wrap_i64] at *; omega) | (simp_all; done) | (simp_all; omega)))
          try simp (maxSteps := 1000000) [hz2, List.take_succ_cons, List.take_zero, List.drop_succ_cons, List.drop_zero]
          repeat' (first | apply And.intro | intro _)
          any_goals (first | (refine hK29 _ ?_; clear hK29) | (first | omega | (simp only [IntKind.wrap_i64] at *; omega) | (simp_all; done) | (simp_all; omega)))
          refine swp_ret ?_
          simp [fnPost, Try.results5, resP, tupOf]
          skip
    · first | exact absurd hc13 (by simp) | (have h := hc13; simp [v1, v2] at h)

set_option maxHeartbeats 2000000 in
theorem entries_b (i : Nat) (h1 : 1 ≤ i) (h2 : i ≤ 12) (e : Int) (he : e < 0 ∨ bMany i ≤ e) (vs : List Int) : PCall Try.prog 5 [.int .i64 (i : Nat), .int .i64 e, .ro (.ints .i64 vs)] (.bool true) := by
  have hB := bk_ok h1 h2
  have hdim := hB.dim
  have hlow := hB.low
  have hhigh := hB.high
  have hwide := hB.wide
  have hmany := hB.many
  have hplain := hB.plain
  refine pcall_body ty_ok Try.func5 rfl (by rfl) (by simp) ?_
  rw [Try.ntmps5]
  refine swp_seq fun K1 hK1 => ?_
  refine swp_region ty_ok ?_
  try simp (maxSteps := 1000000)
  repeat' (first | apply And.intro | intro _)
  any_goals (first | (refine hK1 _ ?_; clear hK1) | (first | omega | (simp only [IntKind.wrap_i64] at *; omega) | (simp_all; done) | (simp_all; omega)))
  refine swp_seq fun K2 hK2 => ?_
  refine swp_region ty_ok ?_
  refine runs_cut 1 fun R3 hR3 => ?_
  try simp (maxSteps := 1000000) [List.take_succ_cons, List.take_zero, List.drop_succ_cons, List.drop_zero]
  refine .inl ⟨_, alive_ok, ?_⟩
  try simp (maxSteps := 1000000)
  repeat' (first | apply And.intro | intro _)
  any_goals (first | (refine hR3 _ ?_; clear hR3) | (first | omega | (simp only [IntKind.wrap_i64] at *; omega) | (simp_all; done) | (simp_all; omega)))
  try simp (maxSteps := 1000000) [List.take_succ_cons, List.take_zero, List.drop_succ_cons, List.drop_zero]
  repeat' (first | apply And.intro | intro _)
  any_goals (first | (refine hK2 _ ?_; clear hK2) | (first | omega | (simp only [IntKind.wrap_i64] at *; omega) | (simp_all; done) | (simp_all; omega)))
  refine swp_seq fun K4 hK4 => ?_
  refine swp_seq fun K5 hK5 => ?_
  refine swp_region ty_ok ?_
  try simp (maxSteps := 1000000)
  repeat' (first | apply And.intro | intro _)
  any_goals (first | (refine hK5 _ ?_; clear hK5) | (first | omega | (simp only [IntKind.wrap_i64] at *; omega) | (simp_all; done) | (simp_all; omega)))
  refine swp_if fun C6 hC6 => ?_
  try simp (maxSteps := 1000000)
  refine hC6 _ (fun hc6 => ?_) (fun hc6 => ?_)
  · clear hC6
    try simp at hc6
    refine swp_seq fun K7 hK7 => ?_
    refine swp_region ty_ok ?_
    try simp (maxSteps := 1000000)
    repeat' (first | apply And.intro | intro _)
    any_goals (first | (refine hK7 _ ?_; clear hK7) | (first | omega | (simp only [IntKind.wrap_i64] at *; omega) | (simp_all; done) | (simp_all; omega)))
    refine swp_ret ?_
    simp [fnPost, Try.results5, resP, tupOf]
    skip
  · clear hC6
    try simp at hc6
    refine swp_skip ?_
    try simp only [thn, inBlk]
    refine hK4 _ ?_; clear hK4
    refine swp_seq fun K8 hK8 => ?_
    refine swp_region ty_ok ?_
    refine runs_cut 2 fun R9 hR9 => ?_
    try simp (maxSteps := 1000000) [List.take_succ_cons, List.take_zero, List.drop_succ_cons, List.drop_zero]
    repeat' (first | apply And.intro | intro _)
    any_goals (first | (refine hR9 _ ?_; clear hR9) | (first | omega | (simp only [IntKind.wrap_i64] at *; omega) | (simp_all; done) | (simp_all; omega)))
    refine runs_cut 1 fun R10 hR10 => ?_
    try simp (maxSteps := 1000000) [List.take_succ_cons, List.take_zero, List.drop_succ_cons, List.drop_zero]
    refine .inl ⟨_, valu_e i h1 h2 e he, ?_⟩
    try simp (maxSteps := 1000000)
    repeat' (first | apply And.intro | intro _)
    any_goals (first | (refine hR10 _ ?_; clear hR10) | (first | omega | (simp only [IntKind.wrap_i64] at *; omega) | (simp_all; done) | (simp_all; omega)))
    try simp (maxSteps := 1000000) [List.take_succ_cons, List.take_zero, List.drop_succ_cons, List.drop_zero]
    repeat' (first | apply And.intro | intro _)
    any_goals (first | (refine hK8 _ ?_; clear hK8) | (first | omega | (simp only [IntKind.wrap_i64] at *; omega) | (simp_all; done) | (simp_all; omega)))
    refine swp_seq fun K11 hK11 => ?_
    refine swp_seq fun K12 hK12 => ?_
    refine swp_region ty_ok ?_
    try simp (maxSteps := 1000000)
    repeat' (first | apply And.intro | intro _)
    any_goals (first | (refine hK12 _ ?_; clear hK12) | (first | omega | (simp only [IntKind.wrap_i64] at *; omega) | (simp_all; done) | (simp_all; omega)))
    refine swp_if fun C13 hC13 => ?_
    try simp (maxSteps := 1000000)
    refine hC13 _ (fun hc13 => ?_) (fun hc13 => ?_)
    · first | exact absurd hc13 (by simp) | (have h := hc13; simp [v1, v2] at h)
    · clear hC13
      try simp at hc13
      refine swp_skip ?_
      try simp only [thn, inBlk]
      refine hK11 _ ?_; clear hK11
      refine swp_seq fun K14 hK14 => ?_
      refine swp_region ty_ok ?_
      refine runs_cut 2 fun R15 hR15 => ?_
      try simp (maxSteps := 1000000) [List.take_succ_cons, List.take_zero, List.drop_succ_cons, List.drop_zero]
      repeat' (first | apply And.intro | intro _)
      any_goals (first | (refine hR15 _ ?_; clear hR15) | (first | omega | (simp only [IntKind.wrap_i64] at *; omega) | (simp_all; done) | (simp_all; omega)))
      refine runs_cut 1 fun R16 hR16 => ?_
      try simp (maxSteps := 1000000) [List.take_succ_cons, List.take_zero, List.drop_succ_cons, List.drop_zero]
      refine .inl ⟨_, ent_ok i h1 h2 vs, ?_⟩
      try simp (maxSteps := 1000000)
      repeat' (first | apply And.intro | intro _)
      any_goals (first | (refine hR16 _ ?_; clear hR16) | (first | omega | (simp only [IntKind.wrap_i64] at *; omega) | (simp_all; done) | (simp_all; omega)))
      try simp (maxSteps := 1000000) [List.take_succ_cons, List.take_zero, List.drop_succ_cons, List.drop_zero]
      repeat' (first | apply And.intro | intro _)
      any_goals (first | (refine hK14 _ ?_; clear hK14) | (first | omega | (simp only [IntKind.wrap_i64] at *; omega) | (simp_all; done) | (simp_all; omega)))
      refine swp_seq fun K17 hK17 => ?_
      refine swp_seq fun K18 hK18 => ?_
      refine swp_region ty_ok ?_
      try simp (maxSteps := 1000000)
      repeat' (first | apply And.intro | intro _)
      any_goals (first | (refine hK18 _ ?_; clear hK18) | (first | omega | (simp only [IntKind.wrap_i64] at *; omega) | (simp_all; done) | (simp_all; omega)))
      refine swp_if fun C19 hC19 => ?_
      try simp (maxSteps := 1000000)
      refine hC19 _ (fun hc19 => ?_) (fun hc19 => ?_)
      · clear hC19
        try simp at hc19
        refine swp_seq fun K20 hK20 => ?_
        have hne : entV i vs = 0 := (by have h := hc19; unfold entV; rw [if_neg h])
        refine swp_region ty_ok ?_
        try simp (maxSteps := 1000000) [hne]
        repeat' (first | apply And.intro | intro _)
        any_goals (first | (refine hK20 _ ?_; clear hK20) | (first | omega | (simp only [IntKind.wrap_i64] at *; omega) | (simp_all; done) | (simp_all; omega)))
        refine swp_ret ?_
        simp [fnPost, Try.results5, resP, tupOf]
        skip
      · clear hC19
        try simp at hc19
        refine swp_skip ?_
        try simp only [thn, inBlk]
        refine hK17 _ ?_; clear hK17
        refine swp_seq fun K21 hK21 => ?_
        have h0 : entE i vs = 0 := (by have h := hc19; omega)
        have hz := entV_ok hB h0
        have hz1 := hz.2.1
        have hz2 := hz.2.2
        refine swp_region ty_ok ?_
        refine runs_cut 2 fun R22 hR22 => ?_
        try simp (maxSteps := 1000000) [hz1, List.take_succ_cons, List.take_zero, List.drop_succ_cons, List.drop_zero]
        repeat' (first | apply And.intro | intro _)
        any_goals (first | (refine hR22 _ ?_; clear hR22) | (first | omega | (simp only [IntKind.wrap_i64] at *; omega) | (simp_all; done) | (simp_all; omega)))
        refine runs_cut 1 fun R23 hR23 => ?_
        try simp (maxSteps := 1000000) [hz1, List.take_succ_cons, List.take_zero, List.drop_succ_cons, List.drop_zero]
        refine .inl ⟨_, valu_ok i h1 h2 (entN i vs) hz.1, ?_⟩
        try simp (maxSteps := 1000000) [hz1]
        repeat' (first | apply And.intro | intro _)
        any_goals (first | (refine hR23 _ ?_; clear hR23) | (first | omega | (simp only [IntKind.wrap_i64] at *; omega) | (simp_all; done) | (simp_all; omega)))
        try simp (maxSteps := 1000000) [hz1, List.take_succ_cons, List.take_zero, List.drop_succ_cons, List.drop_zero]
        repeat' (first | apply And.intro | intro _)
        any_goals (first | (refine hK21 _ ?_; clear hK21) | (first | omega | (simp only [IntKind.wrap_i64] at *; omega) | (simp_all; done) | (simp_all; omega)))
        refine swp_seq fun K24 hK24 => ?_
        refine swp_region ty_ok ?_
        refine runs_cut 5 fun R25 hR25 => ?_
        try simp (maxSteps := 1000000) [hz2, List.take_succ_cons, List.take_zero, List.drop_succ_cons, List.drop_zero]
        repeat' (first | apply And.intro | intro _)
        any_goals (first | (refine hR25 _ ?_; clear hR25) | (first | omega | (simp only [IntKind.wrap_i64] at *; omega) | (simp_all; done) | (simp_all; omega)))
        refine runs_cut 1 fun R26 hR26 => ?_
        try simp (maxSteps := 1000000) [hz2, List.take_succ_cons, List.take_zero, List.drop_succ_cons, List.drop_zero]
        first | refine .inl ⟨_, fun hb => .inl ⟨reedpiperef06_Ints_ok vs vs (by omega), rfl⟩, ?_⟩ | refine .inl ⟨_, .inl ⟨reedpiperef06_Ints_ok vs vs (by omega), rfl⟩, ?_⟩ | refine .inl ⟨_, fun hb => .inl (reedpiperef06_Ints_ok vs vs (by omega)), ?_⟩ | refine .inl ⟨_, .inl (reedpiperef06_Ints_ok vs vs (by omega)), ?_⟩ | refine .inl ⟨_, by (intros; exact Or.inl (reedpiperef06_Ints_ok vs vs (by omega))), ?_⟩ | refine .inl ⟨_, by (intros; exact Or.inl ⟨reedpiperef06_Ints_ok vs vs (by omega), rfl⟩), ?_⟩ | refine .inl ⟨_, fun hb => .inl ⟨_, reedpiperef06_Ints_ok vs vs (by omega), by (try simp); exact ⟨rfl, rfl⟩⟩, ?_⟩
        repeat' (first | apply And.intro | intro _)
        any_goals (first | (refine hR26 _ ?_; clear hR26) | (first | omega | (simp only [IntKind.wrap_i64] at *; omega) | (simp_all; done) | (simp_all; omega)))
        try simp (maxSteps := 1000000) [hz2, List.take_succ_cons, List.take_zero, List.drop_succ_cons, List.drop_zero]
        repeat' (first | apply And.intro | intro _)
        any_goals (first | (refine hK24 _ ?_; clear hK24) | (first | omega | (simp only [IntKind.wrap_i64] at *; omega) | (simp_all; done) | (simp_all; omega)))
        refine swp_ret ?_
        simp [fnPost, Try.results5, resP, tupOf]
        skip

set_option maxHeartbeats 2000000 in
theorem entries_c (n : Int) (h : n < 1 ∨ 12 < n) (e : Int) (vs : List Int) : PCall Try.prog 5 [.int .i64 n, .int .i64 e, .ro (.ints .i64 vs)] (.bool true) := by
  refine pcall_body ty_ok Try.func5 rfl (by rfl) (by simp) ?_
  rw [Try.ntmps5]
  refine swp_seq fun K1 hK1 => ?_
  refine swp_region ty_ok ?_
  try simp (maxSteps := 1000000)
  repeat' (first | apply And.intro | intro _)
  any_goals (first | (refine hK1 _ ?_; clear hK1) | (first | omega | (simp only [IntKind.wrap_i64] at *; omega) | (simp_all; done) | (simp_all; omega)))
  refine swp_seq fun K2 hK2 => ?_
  refine swp_region ty_ok ?_
  refine runs_cut 1 fun R3 hR3 => ?_
  try simp (maxSteps := 1000000) [List.take_succ_cons, List.take_zero, List.drop_succ_cons, List.drop_zero]
  refine .inl ⟨_, alive_ok, ?_⟩
  try simp (maxSteps := 1000000)
  repeat' (first | apply And.intro | intro _)
  any_goals (first | (refine hR3 _ ?_; clear hR3) | (first | omega | (simp only [IntKind.wrap_i64] at *; omega) | (simp_all; done) | (simp_all; omega)))
  try simp (maxSteps := 1000000) [List.take_succ_cons, List.take_zero, List.drop_succ_cons, List.drop_zero]
  repeat' (first | apply And.intro | intro _)
  any_goals (first | (refine hK2 _ ?_; clear hK2) | (first | omega | (simp only [IntKind.wrap_i64] at *; omega) | (simp_all; done) | (simp_all; omega)))
  refine swp_seq fun K4 hK4 => ?_
  refine swp_seq fun K5 hK5 => ?_
  refine swp_region ty_ok ?_
  try simp (maxSteps := 1000000)
  repeat' (first | apply And.intro | intro _)
  any_goals (first | (refine hK5 _ ?_; clear hK5) | (first | omega | (simp only [IntKind.wrap_i64] at *; omega) | (simp_all; done) | (simp_all; omega)))
  refine swp_if fun C6 hC6 => ?_
  try simp (maxSteps := 1000000)
  refine hC6 _ (fun hc6 => ?_) (fun hc6 => ?_)
  · clear hC6
    try simp at hc6
    refine swp_seq fun K7 hK7 => ?_
    refine swp_region ty_ok ?_
    try simp (maxSteps := 1000000)
    repeat' (first | apply And.intro | intro _)
    any_goals (first | (refine hK7 _ ?_; clear hK7) | (first | omega | (simp only [IntKind.wrap_i64] at *; omega) | (simp_all; done) | (simp_all; omega)))
    refine swp_ret ?_
    simp [fnPost, Try.results5, resP, tupOf]
    skip
  · clear hC6
    try simp at hc6
    refine swp_skip ?_
    try simp only [thn, inBlk]
    refine hK4 _ ?_; clear hK4
    refine swp_seq fun K8 hK8 => ?_
    refine swp_region ty_ok ?_
    refine runs_cut 2 fun R9 hR9 => ?_
    try simp (maxSteps := 1000000) [List.take_succ_cons, List.take_zero, List.drop_succ_cons, List.drop_zero]
    repeat' (first | apply And.intro | intro _)
    any_goals (first | (refine hR9 _ ?_; clear hR9) | (first | omega | (simp only [IntKind.wrap_i64] at *; omega) | (simp_all; done) | (simp_all; omega)))
    refine runs_cut 1 fun R10 hR10 => ?_
    try simp (maxSteps := 1000000) [List.take_succ_cons, List.take_zero, List.drop_succ_cons, List.drop_zero]
    refine .inl ⟨_, valu_no n h e, ?_⟩
    try simp (maxSteps := 1000000)
    repeat' (first | apply And.intro | intro _)
    any_goals (first | (refine hR10 _ ?_; clear hR10) | (first | omega | (simp only [IntKind.wrap_i64] at *; omega) | (simp_all; done) | (simp_all; omega)))
    try simp (maxSteps := 1000000) [List.take_succ_cons, List.take_zero, List.drop_succ_cons, List.drop_zero]
    repeat' (first | apply And.intro | intro _)
    any_goals (first | (refine hK8 _ ?_; clear hK8) | (first | omega | (simp only [IntKind.wrap_i64] at *; omega) | (simp_all; done) | (simp_all; omega)))
    refine swp_seq fun K11 hK11 => ?_
    refine swp_seq fun K12 hK12 => ?_
    refine swp_region ty_ok ?_
    try simp (maxSteps := 1000000)
    repeat' (first | apply And.intro | intro _)
    any_goals (first | (refine hK12 _ ?_; clear hK12) | (first | omega | (simp only [IntKind.wrap_i64] at *; omega) | (simp_all; done) | (simp_all; omega)))
    refine swp_if fun C13 hC13 => ?_
    try simp (maxSteps := 1000000)
    refine hC13 _ (fun hc13 => ?_) (fun hc13 => ?_)
    · exact absurd hc13 (by simp)
    · clear hC13
      try simp at hc13
      refine swp_skip ?_
      try simp only [thn, inBlk]
      refine hK11 _ ?_; clear hK11
      refine swp_seq fun K14 hK14 => ?_
      refine swp_region ty_ok ?_
      refine runs_cut 2 fun R15 hR15 => ?_
      try simp (maxSteps := 1000000) [List.take_succ_cons, List.take_zero, List.drop_succ_cons, List.drop_zero]
      repeat' (first | apply And.intro | intro _)
      any_goals (first | (refine hR15 _ ?_; clear hR15) | (first | omega | (simp only [IntKind.wrap_i64] at *; omega) | (simp_all; done) | (simp_all; omega)))
      refine runs_cut 1 fun R16 hR16 => ?_
      try simp (maxSteps := 1000000) [List.take_succ_cons, List.take_zero, List.drop_succ_cons, List.drop_zero]
      refine .inl ⟨_, ent_no n h vs, ?_⟩
      try simp (maxSteps := 1000000)
      repeat' (first | apply And.intro | intro _)
      any_goals (first | (refine hR16 _ ?_; clear hR16) | (first | omega | (simp only [IntKind.wrap_i64] at *; omega) | (simp_all; done) | (simp_all; omega)))
      try simp (maxSteps := 1000000) [List.take_succ_cons, List.take_zero, List.drop_succ_cons, List.drop_zero]
      repeat' (first | apply And.intro | intro _)
      any_goals (first | (refine hK14 _ ?_; clear hK14) | (first | omega | (simp only [IntKind.wrap_i64] at *; omega) | (simp_all; done) | (simp_all; omega)))
      refine swp_seq fun K17 hK17 => ?_
      refine swp_seq fun K18 hK18 => ?_
      refine swp_region ty_ok ?_
      try simp (maxSteps := 1000000)
      repeat' (first | apply And.intro | intro _)
      any_goals (first | (refine hK18 _ ?_; clear hK18) | (first | omega | (simp only [IntKind.wrap_i64] at *; omega) | (simp_all; done) | (simp_all; omega)))
      refine swp_if fun C19 hC19 => ?_
      try simp (maxSteps := 1000000)
      refine hC19 _ (fun hc19 => ?_) (fun hc19 => ?_)
      · clear hC19
        try simp at hc19
        refine swp_seq fun K20 hK20 => ?_
        refine swp_region ty_ok ?_
        try simp (maxSteps := 1000000)
        repeat' (first | apply And.intro | intro _)
        any_goals (first | (refine hK20 _ ?_; clear hK20) | (first | omega | (simp only [IntKind.wrap_i64] at *; omega) | (simp_all; done) | (simp_all; omega)))
        refine swp_ret ?_
        simp [fnPost, Try.results5, resP, tupOf]
        skip
      · exact absurd hc19 (by simp)

end Go.Proofs.Ytjkpbhjppjamnaa

