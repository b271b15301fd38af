import Derived.Test.YtjkpbhjppjamnaaWb
import Derived.Test.YtjkpbhjppjamnaaTyb
import Derived.Test.YtjkpbhjppjamnaaBkq
import Derived.Test.YtjkpbhjppjamnaaBsrt
import Derived.Test.YtjkpbhjppjamnaaBbk
import Derived.Test.YtjkpbhjppjamnaaBbk2
import Derived.Test.YtjkpbhjppjamnaaBbk3
import Derived.Test.YtjkpbhjppjamnaaBbits
import Derived.Test.YtjkpbhjppjamnaaBrd
import Derived.Test.YtjkpbhjppjamnaaBrdq
import Derived.Test.YtjkpbhjppjamnaaBbits2
import Derived.Test.YtjkpbhjppjamnaaBbk4
import Derived.Test.YtjkpbhjppjamnaaBbk5
import Derived.Test.YtjkpbhjppjamnaaBbk6
import Derived.Test.YtjkpbhjppjamnaaBbk7
namespace Go.Proofs.Ytjkpbhjppjamnaa
set_option linter.unusedVariables false
set_option linter.unusedSimpArgs false
set_option maxRecDepth 10000
open Go Go.Pv

open Go.RowKit
theorem absL_bd (xs : List Int) (h : ∀ v ∈ xs, -60 ≤ v ∧ v ≤ 60) : ∀ j, absL (xs.take j) ≤ 60 * j
  | 0 => by simp [absL]
  | j + 1 => by
    have ih := absL_bd xs h j
    by_cases hj : j < xs.length
    · rw [absL_take hj]
      have := h (xs[j]?.getD 0) (by rw [List.getElem?_eq_getElem hj]; exact List.getElem_mem hj)
      omega
    · rw [List.take_of_length_le (by omega)] at ih ⊢
      omega
attribute [local simp] runs gd step1 need evu un opnds opv ev cst cst1 cstL getT getH putT onL nxt argT cellsOf PV.one thn inBlk jmp fldP ldP ldC live Cells.len Cells.get Cells.w sug ldv bin eqF eq1 ops2 sh2 binv Tk.agg stC apC rdS apS mvL zp argsP idx fillP toInts chunks mkC ixS ixA oidx slP sl0 slA optL List.append mxF bltn frzA frz frzL frz1 pur1 Cells.pur PV.scal scal1 runD rdO PV.ids id1 zids ety Eff.on cnd minb and1b ifmax ifmin mxv sugI strv w0 w1 w2 wm1
theorem lsize_ok (xs : List Int) (hl : xs.length ≤ 4) (hv : ∀ v ∈ xs, -60 ≤ v ∧ v ≤ 60) : PCall Try.prog 24 [.ro (.ints .i64 xs)] (.int .i64 (absL xs : Nat)) := by
  refine pcall_body ty_ok Try.func24 rfl (by rfl) (by simp) ?_
  rw [Try.ntmps24]
  refine swp_seq fun K1 hK1 => ?_
  refine swp_region ty_ok ?_
  try simp (maxSteps := 1000000)
  repeat' (first | apply And.intro | intro _)
  any_goals (first | (refine hK1 _ ?_; clear hK1) | (first | omega | (simp only [IntKind.wrap_i64] at *; omega) | (simp_all; done) | (simp_all; omega)))
  refine swp_seq fun K2 hK2 => ?_
  refine swp_region ty_ok ?_
  try simp (maxSteps := 1000000)
  repeat' (first | apply And.intro | intro _)
  any_goals (first | (refine hK2 _ ?_; clear hK2) | (first | omega | (simp only [IntKind.wrap_i64] at *; omega) | (simp_all; done) | (simp_all; omega)))
  refine swp_seq fun K3 hK3 => ?_
  refine swp_seq fun K4 hK4 => ?_
  refine swp_region ty_ok ?_
  try simp (maxSteps := 1000000)
  repeat' (first | apply And.intro | intro _)
  any_goals (first | (refine hK4 _ ?_; clear hK4) | (first | omega | (simp only [IntKind.wrap_i64] at *; omega) | (simp_all; done) | (simp_all; omega)))
  refine swp_block ?_
  refine swp_loop 0 (fun m_ s_ => ∃ (j : Nat), (j ≤ xs.length) ∧ s_ = ⟨[(0, .ro (.ints .i64 xs)), (3, .int .i64 (absL (xs.take j) : Nat)), (4, .int .i64 (j : Nat))], [], 0⟩ ∧ m_ = xs.length - j) _ ⟨[(0, .ro (.ints .i64 xs)), (3, .int .i64 (absL (xs.take 0) : Nat)), (4, .int .i64 (0 : Nat))], [], 0⟩ ⟨by simp [getT, PV.lo, lo1, absL_nil], by simp [getH, Blk.lo, Cells.lo, lo1], rfl, by omega⟩ ⟨(0), by (first | omega | (simp only [IntKind.wrap_i64] at *; omega) | (simp_all; done) | (simp_all; omega)), rfl, rfl⟩ ?_
  rintro m_ s_ ⟨j, hL5_0, rfl, rfl⟩ KL5 hL5
  have hjw := wnext (i := j) (by omega)
  refine swp_seq fun K6 hK6 => ?_
  refine swp_seq fun K7 hK7 => ?_
  refine swp_region ty_ok ?_
  try simp (maxSteps := 1000000)
  repeat' (first | apply And.intro | intro _)
  any_goals (first | (refine hK7 _ ?_; clear hK7) | (first | omega | (simp only [IntKind.wrap_i64] at *; omega) | (simp_all; done) | (simp_all; omega)))
  refine swp_if fun C8 hC8 => ?_
  try simp (maxSteps := 1000000)
  refine hC8 _ (fun hc8 => ?_) (fun hc8 => ?_)
  · clear hC8
    try simp at hc8
    refine swp_skip ?_
    try simp only [thn, inBlk]
    refine hK6 _ ?_; clear hK6
    refine swp_seq fun K9 hK9 => ?_
    refine swp_block ?_
    have hjl : j < xs.length := (by omega)
    have hvj := hv (xs[j]?.getD 0) (by rw [List.getElem?_eq_getElem hjl]; exact List.getElem_mem hjl)
    have hneg : IntKind.i64.wrap (-(xs[j]?.getD 0)) = -(xs[j]?.getD 0) := w64 (by omega)
    have htk := absL_take (l := xs) (x := j) hjl
    have hmx := max_abs (xs[j]?.getD 0)
    have hb := absL_bd xs (fun v hm => hv v hm) j
    have hadd : IntKind.i64.wrap ((absL (xs.take j) : Nat) + ((xs[j]?.getD 0).natAbs : Nat) : Int) = ((absL (xs.take (j + 1)) : Nat) : Int) := by rw [htk, w64 (by omega), Int.natCast_add]
    refine swp_draw ty_ok mixed (ms := [0, 0, 0, 6, 14, 0, 0, 96, 224, 480, 1022, 2047, 4095]) (by kernel_rfl) ?_
    refine runD_cut 6 fun R10 hR10 => ?_
    try simp (maxSteps := 1000000) [hneg, hmx, hadd, List.take_succ_cons, List.take_zero, List.drop_succ_cons, List.drop_zero]
    repeat' (first | apply And.intro | intro _)
    any_goals (first | (refine hR10 _ _ _ _ ?_; clear hR10) | (first | omega | (simp only [IntKind.wrap_i64] at *; omega) | (simp_all; done) | (simp_all; omega)))
    try simp (maxSteps := 1000000) [hneg, hmx, hadd, List.take_succ_cons, List.take_zero, List.drop_succ_cons, List.drop_zero]
    repeat' (first | apply And.intro | intro _)
    any_goals (first | kernel_rfl | (refine hK9 _ ?_; clear hK9) | (first | omega | (simp only [IntKind.wrap_i64] at *; omega) | (simp_all; done) | (simp_all; omega)))
    refine swp_region ty_ok ?_
    try simp (maxSteps := 1000000)
    repeat' apply And.intro
    any_goals (try omega)
    refine hL5 _ ⟨[(0, .ro (.ints .i64 xs)), (3, .int .i64 (absL (xs.take (j + 1)) : Nat)), (4, .int .i64 ((j + 1) : Nat))], [], 0⟩ _ ?_ ⟨(j + 1), by (first | omega | (simp only [IntKind.wrap_i64] at *; omega) | (simp_all; done) | (simp_all; omega)), rfl, rfl⟩ ⟨by simp [getT, PV.lo, lo1, hjw], by simp [getH, Blk.lo, Cells.lo, lo1], rfl, by omega⟩
    omega
  · clear hC8
    try simp at hc8
    refine swp_exit ?_
    simp [thn, inBlk]
    refine hK3 _ ?_; clear hK3
    refine swp_seq fun K12 hK12 => ?_
    refine swp_region ty_ok ?_
    try simp (maxSteps := 1000000)
    repeat' (first | apply And.intro | intro _)
    any_goals (first | (refine hK12 _ ?_; clear hK12) | (first | omega | (simp only [IntKind.wrap_i64] at *; omega) | (simp_all; done) | (simp_all; omega)))
    refine swp_ret ?_
    simp [fnPost, Try.results24, resP, tupOf]
    rw [List.take_of_length_le (by omega)]

theorem al1 : PCall Try.prog 17 [.int .i64 1, .int .i64 40] (.tup [.ro (.ints .i64 [0, 0, 0, 0]), .int .i64 0]) := by
  have := valu_ok 1 (by omega) (by omega) 40 (by decide)
  rw [show bVal 1 40 = [0, 0, 0, 0] from by decide +kernel] at this
  exact this
theorem al2 : PCall Try.prog 19 [.int .i64 7, .ro (.ints .i64 [2, 3])] (.tup [.int .i64 19, .int .i64 0]) := by
  have := ent_ok 7 (by omega) (by omega) [2, 3]
  rw [show entV 7 [2, 3] = 19 from by decide +kernel, show entE 7 [2, 3] = 0 from by decide +kernel] at this
  exact this
theorem al3 : PCall Try.prog 15 [.int .i64 12] (.tup [bookV 12, .int .i64 0]) := by
  exact get_book 12 (by omega) (by omega)
theorem al4 : PCall Try.prog 11 [bookV 12, .int .i64 60] (.tup [.ro (.ints .u8 [1]), .int .i64 0]) := by
  have := code_ok 12 (by omega) (by omega) 60 (by decide)
  rw [show codeL (bPlain 12) ((bRk 12)[60]?.getD 0) = [1] from by decide +kernel] at this
  exact this
theorem al5 : PCall Try.prog 11 [bookV 12, .int .i64 59] (.tup [.ro (.ints .u8 [0, 1, 0]), .int .i64 0]) := by
  have := code_ok 12 (by omega) (by omega) 59 (by decide)
  rw [show codeL (bPlain 12) ((bRk 12)[59]?.getD 0) = [0, 1, 0] from by decide +kernel] at this
  exact this
theorem alive_ok  : PCall Try.prog 23 [] (.bool true) := by
  refine pcall_body ty_ok Try.func23 rfl (by rfl) (by simp) ?_
  rw [Try.ntmps23]
  refine swp_seq fun K1 hK1 => ?_
  refine swp_region ty_ok ?_
  try simp (maxSteps := 1000000) [bookV]
  repeat' (first | apply And.intro | intro _)
  any_goals (first | (refine hK1 _ ?_; clear hK1) | (first | omega | (simp only [IntKind.wrap_i64] at *; omega) | (simp_all; done) | (simp_all; omega)))
  refine swp_seq fun K2 hK2 => ?_
  refine swp_region ty_ok ?_
  refine runs_cut 1 fun R3 hR3 => ?_
  try simp (maxSteps := 1000000) [bookV, List.take_succ_cons, List.take_zero, List.drop_succ_cons, List.drop_zero]
  refine .inl ⟨_, al1, ?_⟩
  try simp (maxSteps := 1000000) [bookV]
  repeat' (first | apply And.intro | intro _)
  any_goals (first | (refine hR3 _ ?_; clear hR3) | (first | omega | (simp only [IntKind.wrap_i64] at *; omega) | (simp_all; done) | (simp_all; omega)))
  try simp (maxSteps := 1000000) [bookV, List.take_succ_cons, List.take_zero, List.drop_succ_cons, List.drop_zero]
  repeat' (first | apply And.intro | intro _)
  any_goals (first | (refine hK2 _ ?_; clear hK2) | (first | omega | (simp only [IntKind.wrap_i64] at *; omega) | (simp_all; done) | (simp_all; omega)))
  refine swp_seq fun K4 hK4 => ?_
  refine swp_region ty_ok ?_
  refine runs_cut 1 fun R5 hR5 => ?_
  try simp (maxSteps := 1000000) [bookV, List.take_succ_cons, List.take_zero, List.drop_succ_cons, List.drop_zero]
  repeat' (first | apply And.intro | intro _)
  any_goals (first | (refine Or.inl (hR5 _ ?_); clear hR5) | (first | omega | (simp only [IntKind.wrap_i64] at *; omega) | (simp_all; done) | (simp_all; omega)))
  refine runs_cut 1 fun R6 hR6 => ?_
  try simp (maxSteps := 1000000) [bookV, List.take_succ_cons, List.take_zero, List.drop_succ_cons, List.drop_zero]
  refine .inl ⟨_, al2, ?_⟩
  try simp (maxSteps := 1000000) [bookV]
  repeat' (first | apply And.intro | intro _)
  any_goals (first | (refine hR6 _ ?_; clear hR6) | (first | omega | (simp only [IntKind.wrap_i64] at *; omega) | (simp_all; done) | (simp_all; omega)))
  try simp (maxSteps := 1000000) [bookV, List.take_succ_cons, List.take_zero, List.drop_succ_cons, List.drop_zero]
  repeat' (first | apply And.intro | intro _)
  any_goals (first | (refine hK4 _ ?_; clear hK4) | (first | omega | (simp only [IntKind.wrap_i64] at *; omega) | (simp_all; done) | (simp_all; omega)))
  refine swp_seq fun K7 hK7 => ?_
  refine swp_region ty_ok ?_
  refine runs_cut 1 fun R8 hR8 => ?_
  try simp (maxSteps := 1000000) [bookV, List.take_succ_cons, List.take_zero, List.drop_succ_cons, List.drop_zero]
  refine .inl ⟨_, al3, ?_⟩
  try simp (maxSteps := 1000000) [bookV]
  repeat' (first | apply And.intro | intro _)
  any_goals (first | (refine hR8 _ ?_; clear hR8) | (first | omega | (simp only [IntKind.wrap_i64] at *; omega) | (simp_all; done) | (simp_all; omega)))
  try simp (maxSteps := 1000000) [bookV, List.take_succ_cons, List.take_zero, List.drop_succ_cons, List.drop_zero]
  repeat' (first | apply And.intro | intro _)
  any_goals (first | (refine hK7 _ ?_; clear hK7) | (first | omega | (simp only [IntKind.wrap_i64] at *; omega) | (simp_all; done) | (simp_all; omega)))
  refine swp_seq fun K9 hK9 => ?_
  refine swp_region ty_ok ?_
  refine runs_cut 1 fun R10 hR10 => ?_
  try simp (maxSteps := 1000000) [bookV, List.take_succ_cons, List.take_zero, List.drop_succ_cons, List.drop_zero]
  repeat' (first | apply And.intro | intro _)
  any_goals (first | (refine hR10 _ ?_; clear hR10) | (first | omega | (simp only [IntKind.wrap_i64] at *; omega) | (simp_all; done) | (simp_all; omega)))
  refine runs_cut 1 fun R11 hR11 => ?_
  try simp (maxSteps := 1000000) [bookV, List.take_succ_cons, List.take_zero, List.drop_succ_cons, List.drop_zero]
  refine .inl ⟨_, al4, ?_⟩
  try simp (maxSteps := 1000000) [bookV]
  repeat' (first | apply And.intro | intro _)
  any_goals (first | (refine hR11 _ ?_; clear hR11) | (first | omega | (simp only [IntKind.wrap_i64] at *; omega) | (simp_all; done) | (simp_all; omega)))
  try simp (maxSteps := 1000000) [bookV, List.take_succ_cons, List.take_zero, List.drop_succ_cons, List.drop_zero]
  repeat' (first | apply And.intro | intro _)
  any_goals (first | (refine hK9 _ ?_; clear hK9) | (first | omega | (simp only [IntKind.wrap_i64] at *; omega) | (simp_all; done) | (simp_all; omega)))
  refine swp_seq fun K12 hK12 => ?_
  refine swp_region ty_ok ?_
  refine runs_cut 1 fun R13 hR13 => ?_
  try simp (maxSteps := 1000000) [bookV, List.take_succ_cons, List.take_zero, List.drop_succ_cons, List.drop_zero]
  repeat' (first | apply And.intro | intro _)
  any_goals (first | (refine hR13 _ ?_; clear hR13) | (first | omega | (simp only [IntKind.wrap_i64] at *; omega) | (simp_all; done) | (simp_all; omega)))
  refine runs_cut 1 fun R14 hR14 => ?_
  try simp (maxSteps := 1000000) [bookV, List.take_succ_cons, List.take_zero, List.drop_succ_cons, List.drop_zero]
  refine .inl ⟨_, al5, ?_⟩
  try simp (maxSteps := 1000000) [bookV]
  repeat' (first | apply And.intro | intro _)
  any_goals (first | (refine hR14 _ ?_; clear hR14) | (first | omega | (simp only [IntKind.wrap_i64] at *; omega) | (simp_all; done) | (simp_all; omega)))
  try simp (maxSteps := 1000000) [bookV, List.take_succ_cons, List.take_zero, List.drop_succ_cons, List.drop_zero]
  repeat' (first | apply And.intro | intro _)
  any_goals (first | (refine hK12 _ ?_; clear hK12) | (first | omega | (simp only [IntKind.wrap_i64] at *; omega) | (simp_all; done) | (simp_all; omega)))
  refine swp_seq fun K15 hK15 => ?_
  refine swp_region ty_ok ?_
  refine runs_cut 4 fun R16 hR16 => ?_
  try simp (maxSteps := 1000000) [bookV, List.take_succ_cons, List.take_zero, List.drop_succ_cons, List.drop_zero]
  repeat' (first | apply And.intro | intro _)
  any_goals (first | (refine hR16 _ ?_; clear hR16) | (first | omega | (simp only [IntKind.wrap_i64] at *; omega) | (simp_all; done) | (simp_all; omega)))
  refine runs_cut 1 fun R17 hR17 => ?_
  try simp (maxSteps := 1000000) [bookV, List.take_succ_cons, List.take_zero, List.drop_succ_cons, List.drop_zero]
  refine .inl ?_
  try simp (maxSteps := 1000000) [bookV, List.take_succ_cons, List.take_zero, List.drop_succ_cons, List.drop_zero]
  repeat' (first | apply And.intro | intro _)
  any_goals (first | (refine hR17 _ ?_; clear hR17) | (first | omega | (simp only [IntKind.wrap_i64] at *; omega) | (simp_all; done) | (simp_all; omega)))
  refine runs_cut 1 fun R18 hR18 => ?_
  try simp (maxSteps := 1000000) [bookV, List.take_succ_cons, List.take_zero, List.drop_succ_cons, List.drop_zero]
  first | refine .inl ⟨_, fun hb => .inl ⟨reedpiperef06_Ints_ok [0, 0, 0, 0] [0, 0, 0, 0] (by simp), rfl⟩, ?_⟩ | refine .inl ⟨_, .inl ⟨reedpiperef06_Ints_ok [0, 0, 0, 0] [0, 0, 0, 0] (by simp), rfl⟩, ?_⟩ | refine .inl ⟨_, fun hb => .inl (reedpiperef06_Ints_ok [0, 0, 0, 0] [0, 0, 0, 0] (by simp)), ?_⟩ | refine .inl ⟨_, .inl (reedpiperef06_Ints_ok [0, 0, 0, 0] [0, 0, 0, 0] (by simp)), ?_⟩ | refine .inl ⟨_, by (intros; exact Or.inl (reedpiperef06_Ints_ok [0, 0, 0, 0] [0, 0, 0, 0] (by simp))), ?_⟩ | refine .inl ⟨_, by (intros; exact Or.inl ⟨reedpiperef06_Ints_ok [0, 0, 0, 0] [0, 0, 0, 0] (by simp), rfl⟩), ?_⟩ | refine .inl ⟨_, fun hb => .inl ⟨_, reedpiperef06_Ints_ok [0, 0, 0, 0] [0, 0, 0, 0] (by simp), by (try simp); exact ⟨rfl, rfl⟩⟩, ?_⟩
  repeat' (first | apply And.intro | intro _)
  any_goals (first | (refine hR18 _ ?_; clear hR18) | (first | omega | (simp only [IntKind.wrap_i64] at *; omega) | (simp_all; done) | (simp_all; omega)))
  refine runs_cut 10 fun R19 hR19 => ?_
  try simp (maxSteps := 1000000) [bookV, List.take_succ_cons, List.take_zero, List.drop_succ_cons, List.drop_zero]
  repeat' (first | apply And.intro | intro _)
  any_goals (first | (refine hR19 _ ?_; clear hR19) | (first | omega | (simp only [IntKind.wrap_i64] at *; omega) | (simp_all; done) | (simp_all; omega)))
  refine runs_cut 11 fun R20 hR20 => ?_
  try simp (maxSteps := 1000000) [bookV, List.take_succ_cons, List.take_zero, List.drop_succ_cons, List.drop_zero]
  repeat' (first | apply And.intro | intro _)
  any_goals (first | (refine hR20 _ ?_; clear hR20) | (first | omega | (simp only [IntKind.wrap_i64] at *; omega) | (simp_all; done) | (simp_all; omega)))
  try simp (maxSteps := 1000000) [bookV, List.take_succ_cons, List.take_zero, List.drop_succ_cons, List.drop_zero]
  repeat' (first | apply And.intro | intro _)
  any_goals (first | (refine hK15 _ ?_; clear hK15) | (first | omega | (simp only [IntKind.wrap_i64] at *; omega) | (simp_all; done) | (simp_all; omega)))
  refine swp_ret ?_
  simp [fnPost, Try.results23, resP, tupOf]
  exact ⟨rfl, rfl⟩

set_option maxHeartbeats 8000000 in
theorem ranks_w (x a : Nat) (hx : x ≤ 255) (ha : a ≤ 65535) : PCall Try.prog 7 [.int .u8 (x : Nat), .int .u16 (a : Nat)] (.bool true) := by
  obtain ⟨i, hi⟩ : ∃ i, x % 12 + 1 = i := ⟨_, rfl⟩
  have h1 : 1 ≤ i := (by omega)
  have h2 : i ≤ 12 := (by omega)
  have hxw : IntKind.i64.wrap (x : Int) = x := w64 (by omega)
  have hxa : IntKind.i64.wrap ((x : Int) % 12) = (x : Int) % 12 := w64 (by omega)
  have hxb : IntKind.i64.wrap ((x : Int) % 12 + 1) = (i : Nat) := by rw [w64 (by omega)]; omega
  have hxt : (x : Int).tmod 12 = (x : Int) % 12 := tmod_nat (a := x) (b := 12) rfl
  have hE := bke h1 h2
  have hB := bk_ok h1 h2
  have hmany := hB.many
  have hplain := hB.plain
  have hel := hE.elen
  have hrl := hE.rlen
  have hmz : ¬ bMany i = 0 := (by omega)
  have hvb : ∀ e, ∀ v ∈ bVal i e, -60 ≤ v ∧ v ≤ 60 := fun e v hv => by have := bDg_bd hB _ _ v hv; have := hB.low; have := hB.high; omega
  obtain ⟨r, hr0⟩ : ∃ m, a % bMany i = m := ⟨_, rfl⟩
  have hr : r < bMany i := by rw [← hr0]; exact Nat.mod_lt _ (by omega)
  have hma2 : IntKind.i64.wrap (a : Int) = (a : Nat) := w64 (by omega)
  have hma : (a : Int).tmod (bMany i : Nat) = (r : Nat) := tmod_nat hr0
  have hwr : IntKind.i64.wrap (r : Int) = (r : Nat) := w64 (by omega)
  have hvl : (bVal i r).length ≤ 4 := by unfold bVal; rw [bDg_len]; have := hB.dim; omega
  obtain ⟨ea, eb⟩ := hE.ea hr
  obtain ⟨ra, _⟩ := hE.ra eb
  have er := hE.er r hr
  rw [er] at ra
  obtain ⟨e, he⟩ : ∃ e, (bEnt i)[r]?.getD 0 = e := ⟨_, rfl⟩
  rw [he] at ea eb ra
  refine pcall_body ty_ok Try.func7 rfl (by rfl) (by simp) ?_
  rw [Try.ntmps7]
  refine swp_seq fun K1 hK1 => ?_
  refine swp_region ty_ok ?_
  try simp (maxSteps := 1000000) [bookV]
  repeat' (first | apply And.intro | intro _)
  any_goals (first | (refine hK1 _ ?_; clear hK1) | (first | omega | (simp only [IntKind.wrap_i64] at *; omega) | (simp_all; done) | (simp_all; omega)))
  refine swp_seq fun K2 hK2 => ?_
  refine swp_region ty_ok ?_
  refine runs_cut 1 fun R3 hR3 => ?_
  try simp (maxSteps := 1000000) [bookV, List.take_succ_cons, List.take_zero, List.drop_succ_cons, List.drop_zero]
  refine .inl ⟨_, alive_ok, ?_⟩
  try simp (maxSteps := 1000000) [bookV]
  repeat' (first | apply And.intro | intro _)
  any_goals (first | (refine hR3 _ ?_; clear hR3) | (first | omega | (simp only [IntKind.wrap_i64] at *; omega) | (simp_all; done) | (simp_all; omega)))
  try simp (maxSteps := 1000000) [bookV, List.take_succ_cons, List.take_zero, List.drop_succ_cons, List.drop_zero]
  repeat' (first | apply And.intro | intro _)
  any_goals (first | (refine hK2 _ ?_; clear hK2) | (first | omega | (simp only [IntKind.wrap_i64] at *; omega) | (simp_all; done) | (simp_all; omega)))
  refine swp_seq fun K4 hK4 => ?_
  refine swp_region ty_ok ?_
  refine runs_cut 4 fun R5 hR5 => ?_
  try simp (maxSteps := 1000000) [bookV, hxt, hxa, hxb, hxw, List.take_succ_cons, List.take_zero, List.drop_succ_cons, List.drop_zero]
  repeat' (first | apply And.intro | intro _)
  any_goals (first | (refine hR5 _ ?_; clear hR5) | (first | omega | (simp only [IntKind.wrap_i64] at *; omega) | (simp_all; done) | (simp_all; omega)))
  refine runs_cut 1 fun R6 hR6 => ?_
  try simp (maxSteps := 1000000) [bookV, hxt, hxa, hxb, hxw, List.take_succ_cons, List.take_zero, List.drop_succ_cons, List.drop_zero]
  refine .inl ⟨_, get_book i h1 h2, ?_⟩
  try simp (maxSteps := 1000000) [bookV, hxt, hxa, hxb, hxw]
  repeat' (first | apply And.intro | intro _)
  any_goals (first | (refine hR6 _ ?_; clear hR6) | (first | omega | (simp only [IntKind.wrap_i64] at *; omega) | (simp_all; done) | (simp_all; omega)))
  try simp (maxSteps := 1000000) [bookV, hxt, hxa, hxb, hxw, List.take_succ_cons, List.take_zero, List.drop_succ_cons, List.drop_zero]
  repeat' (first | apply And.intro | intro _)
  any_goals (first | (refine hK4 _ ?_; clear hK4) | (first | omega | (simp only [IntKind.wrap_i64] at *; omega) | (simp_all; done) | (simp_all; omega)))
  refine swp_seq fun K7 hK7 => ?_
  refine swp_seq fun K8 hK8 => ?_
  refine swp_region ty_ok ?_
  refine runs_cut 7 fun R9 hR9 => ?_
  try simp (maxSteps := 1000000) [bookV, hel, hrl, List.take_succ_cons, List.take_zero, List.drop_succ_cons, List.drop_zero]
  repeat' (first | apply And.intro | intro _)
  any_goals (first | (refine hR9 _ ?_; clear hR9) | (first | omega | (simp only [IntKind.wrap_i64] at *; omega) | (simp_all; done) | (simp_all; omega)))
  try simp (maxSteps := 1000000) [bookV, hel, hrl, List.take_succ_cons, List.take_zero, List.drop_succ_cons, List.drop_zero]
  repeat' (first | apply And.intro | intro _)
  any_goals (first | (refine hK8 _ ?_; clear hK8) | (first | omega | (simp only [IntKind.wrap_i64] at *; omega) | (simp_all; done) | (simp_all; omega)))
  refine swp_if fun C10 hC10 => ?_
  try simp (maxSteps := 1000000) [bookV, hel, hrl]
  refine hC10 _ (fun hc10 => ?_) (fun hc10 => ?_)
  · exact absurd hc10 (by simp)
  · clear hC10
    try simp at hc10
    refine swp_skip ?_
    try simp only [thn, inBlk]
    refine hK7 _ ?_; clear hK7
    refine swp_seq fun K11 hK11 => ?_
    refine swp_region ty_ok ?_
    try simp (maxSteps := 1000000) [bookV, hel, hma, hma2, hmz, hwr]
    repeat' (first | apply And.intro | intro _)
    any_goals (first | (refine hK11 _ ?_; clear hK11) | (first | omega | (simp only [IntKind.wrap_i64] at *; omega) | (simp_all; done) | (simp_all; omega)))
    refine swp_seq fun K12 hK12 => ?_
    refine swp_region ty_ok ?_
    try simp (maxSteps := 1000000) [bookV, hel, ea]
    repeat' (first | apply And.intro | intro _)
    any_goals (first | (refine hK12 _ ?_; clear hK12) | (first | omega | (simp only [IntKind.wrap_i64] at *; omega) | (simp_all; done) | (simp_all; omega)))
    refine swp_seq fun K13 hK13 => ?_
    refine swp_seq fun K14 hK14 => ?_
    refine swp_region ty_ok ?_
    refine runs_cut 9 fun R15 hR15 => ?_
    try simp (maxSteps := 1000000) [bookV, hrl, ra, List.take_succ_cons, List.take_zero, List.drop_succ_cons, List.drop_zero]
    repeat' (first | apply And.intro | intro _)
    any_goals (first | (refine hR15 _ ?_; clear hR15) | (first | omega | (simp only [IntKind.wrap_i64] at *; omega) | (simp_all; done) | (simp_all; omega)))
    try simp (maxSteps := 1000000) [bookV, hrl, ra, List.take_succ_cons, List.take_zero, List.drop_succ_cons, List.drop_zero]
    repeat' (first | apply And.intro | intro _)
    any_goals (first | (refine hK14 _ ?_; clear hK14) | (first | omega | (simp only [IntKind.wrap_i64] at *; omega) | (simp_all; done) | (simp_all; omega)))
    refine swp_if fun C16 hC16 => ?_
    try simp (maxSteps := 1000000) [bookV, hrl, ra]
    refine hC16 _ (fun hc16 => ?_) (fun hc16 => ?_)
    · exfalso
      have h := hc16
      simp [hel, hrl, ra] at h
      omega
    · clear hC16
      try simp at hc16
      refine swp_skip ?_
      try simp only [thn, inBlk]
      refine hK13 _ ?_; clear hK13
      refine swp_seq fun K17 hK17 => ?_
      refine swp_seq fun K18 hK18 => ?_
      refine swp_region ty_ok ?_
      try simp (maxSteps := 1000000) [bookV]
      repeat' (first | apply And.intro | intro _)
      any_goals (first | (refine hK18 _ ?_; clear hK18) | (first | omega | (simp only [IntKind.wrap_i64] at *; omega) | (simp_all; done) | (simp_all; omega)))
      refine swp_if fun C19 hC19 => ?_
      try simp (maxSteps := 1000000) [bookV]
      refine hC19 _ (fun hc19 => ?_) (fun hc19 => ?_)
      · clear hC19
        try simp at hc19
        refine swp_seq fun K20 hK20 => ?_
        refine swp_region ty_ok ?_
        try simp (maxSteps := 1000000) [bookV]
        repeat' (first | apply And.intro | intro _)
        any_goals (first | (refine hK20 _ ?_; clear hK20) | (first | omega | (simp only [IntKind.wrap_i64] at *; omega) | (simp_all; done) | (simp_all; omega)))
        refine swp_ret ?_
        simp [fnPost, Try.results7, resP, tupOf]
      · clear hC19
        try simp at hc19
        refine swp_skip ?_
        try simp only [thn, inBlk]
        refine hK17 _ ?_; clear hK17
        refine swp_seq fun K21 hK21 => ?_
        have hr0 : ¬ r = 0 := hc19
        obtain ⟨fa, fb⟩ := hE.ea (r := r - 1) (by omega)
        have hs := hE.srt (r - 1) (by omega)
        rw [show r - 1 + 1 = r by omega, he] at hs
        obtain ⟨f, hf⟩ : ∃ f, (bEnt i)[r - 1]?.getD 0 = f := ⟨_, rfl⟩
        rw [hf] at fa fb hs
        rw [lex_iff] at hs
        have hr1 : IntKind.i64.wrap ((r : Int) - 1) = ((r - 1 : Nat) : Int) := by rw [w64 (by omega)]; omega
        have hr2 : ((r : Int) - 1).toNat = r - 1 := (by omega)
        have hvlf : (bVal i f).length ≤ 4 := by unfold bVal; rw [bDg_len]; have := hB.dim; omega
        have hvle : (bVal i e).length ≤ 4 := by unfold bVal; rw [bDg_len]; have := hB.dim; omega
        have hzf : absL (bVal i f) = bSz i f := rfl
        have hze : absL (bVal i e) = bSz i e := rfl
        refine swp_draw ty_ok mixed (ms := [0, 1, 0, 4, 0, 16, 60, 124, 255, 511, 1023, 1023, 2047, 8191]) (by kernel_rfl) ?_
        refine runD_cut 8 fun R22 hR22 => ?_
        try simp (maxSteps := 1000000) [bookV, hr1, hr2, fa, hel, List.take_succ_cons, List.take_zero, List.drop_succ_cons, List.drop_zero]
        repeat' (first | apply And.intro | intro _)
        any_goals (first | (refine hR22 _ _ _ _ ?_; clear hR22) | (first | omega | (simp only [IntKind.wrap_i64] at *; omega) | (simp_all; done) | (simp_all; omega)))
        refine runD_cut 1 fun R23 hR23 => ?_
        try simp (maxSteps := 1000000) [bookV, hr1, hr2, fa, hel, List.take_succ_cons, List.take_zero, List.drop_succ_cons, List.drop_zero]
        refine .inl ⟨_, valu_ok i h1 h2 f fb, ?_⟩
        try simp (maxSteps := 1000000) [bookV, hr1, hr2, fa, hel]
        repeat' (first | apply And.intro | intro _)
        any_goals (first | (refine hR23 _ _ _ _ ?_; clear hR23) | (first | omega | (simp only [IntKind.wrap_i64] at *; omega) | (simp_all; done) | (simp_all; omega)))
        try simp (maxSteps := 1000000) [bookV, hr1, hr2, fa, hel, List.take_succ_cons, List.take_zero, List.drop_succ_cons, List.drop_zero]
        repeat' (first | apply And.intro | intro _)
        any_goals (first | kernel_rfl | (refine hK21 _ ?_; clear hK21) | (first | omega | (simp only [IntKind.wrap_i64] at *; omega) | (simp_all; done) | (simp_all; omega)))
        refine swp_seq fun K25 hK25 => ?_
        refine swp_region ty_ok ?_
        refine runs_cut 3 fun R26 hR26 => ?_
        try simp (maxSteps := 1000000) [bookV, List.take_succ_cons, List.take_zero, List.drop_succ_cons, List.drop_zero]
        repeat' (first | apply And.intro | intro _)
        any_goals (first | (refine hR26 _ ?_; clear hR26) | (first | omega | (simp only [IntKind.wrap_i64] at *; omega) | (simp_all; done) | (simp_all; omega)))
        refine runs_cut 1 fun R27 hR27 => ?_
        try simp (maxSteps := 1000000) [bookV, List.take_succ_cons, List.take_zero, List.drop_succ_cons, List.drop_zero]
        refine .inl ⟨_, valu_ok i h1 h2 e eb, ?_⟩
        try simp (maxSteps := 1000000) [bookV]
        repeat' (first | apply And.intro | intro _)
        any_goals (first | (refine hR27 _ ?_; clear hR27) | (first | omega | (simp only [IntKind.wrap_i64] at *; omega) | (simp_all; done) | (simp_all; omega)))
        try simp (maxSteps := 1000000) [bookV, List.take_succ_cons, List.take_zero, List.drop_succ_cons, List.drop_zero]
        repeat' (first | apply And.intro | intro _)
        any_goals (first | (refine hK25 _ ?_; clear hK25) | (first | omega | (simp only [IntKind.wrap_i64] at *; omega) | (simp_all; done) | (simp_all; omega)))
        refine swp_seq fun K28 hK28 => ?_
        refine swp_region ty_ok ?_
        refine runs_cut 8 fun R29 hR29 => ?_
        try simp (maxSteps := 1000000) [bookV, hr1, hr2, fa, hel, hzf, hze, List.take_succ_cons, List.take_zero, List.drop_succ_cons, List.drop_zero]
        repeat' (first | apply And.intro | intro _)
        any_goals (first | (refine hR29 _ ?_; clear hR29) | (first | omega | (simp only [IntKind.wrap_i64] at *; omega) | (simp_all; done) | (simp_all; omega)))
        refine runs_cut 1 fun R30 hR30 => ?_
        try simp (maxSteps := 1000000) [bookV, hr1, hr2, fa, hel, hzf, hze, List.take_succ_cons, List.take_zero, List.drop_succ_cons, List.drop_zero]
        first | refine .inl ⟨_, fun hb => .inl ⟨lsize_ok (bVal i f) hvlf (hvb f), rfl⟩, ?_⟩ | refine .inl ⟨_, .inl ⟨lsize_ok (bVal i f) hvlf (hvb f), rfl⟩, ?_⟩ | refine .inl ⟨_, fun hb => .inl (lsize_ok (bVal i f) hvlf (hvb f)), ?_⟩ | refine .inl ⟨_, .inl (lsize_ok (bVal i f) hvlf (hvb f)), ?_⟩ | refine .inl ⟨_, by (intros; exact Or.inl (lsize_ok (bVal i f) hvlf (hvb f))), ?_⟩ | refine .inl ⟨_, by (intros; exact Or.inl ⟨lsize_ok (bVal i f) hvlf (hvb f), rfl⟩), ?_⟩ | refine .inl ⟨_, fun hb => .inl ⟨_, lsize_ok (bVal i f) hvlf (hvb f), by (try simp); exact ⟨rfl, rfl⟩⟩, ?_⟩
        repeat' (first | apply And.intro | intro _)
        any_goals (first | (refine hR30 _ ?_; clear hR30) | (first | omega | (simp only [IntKind.wrap_i64] at *; omega) | (simp_all; done) | (simp_all; omega)))
        refine runs_cut 1 fun R31 hR31 => ?_
        try simp (maxSteps := 1000000) [bookV, hr1, hr2, fa, hel, hzf, hze, List.take_succ_cons, List.take_zero, List.drop_succ_cons, List.drop_zero]
        repeat' (first | apply And.intro | intro _)
        any_goals (first | (refine hR31 _ ?_; clear hR31) | (first | omega | (simp only [IntKind.wrap_i64] at *; omega) | (simp_all; done) | (simp_all; omega)))
        refine runs_cut 1 fun R32 hR32 => ?_
        try simp (maxSteps := 1000000) [bookV, hr1, hr2, fa, hel, hzf, hze, List.take_succ_cons, List.take_zero, List.drop_succ_cons, List.drop_zero]
        first | refine .inl ⟨_, fun hb => .inl ⟨lsize_ok (bVal i e) hvle (hvb e), rfl⟩, ?_⟩ | refine .inl ⟨_, .inl ⟨lsize_ok (bVal i e) hvle (hvb e), rfl⟩, ?_⟩ | refine .inl ⟨_, fun hb => .inl (lsize_ok (bVal i e) hvle (hvb e)), ?_⟩ | refine .inl ⟨_, .inl (lsize_ok (bVal i e) hvle (hvb e)), ?_⟩ | refine .inl ⟨_, by (intros; exact Or.inl (lsize_ok (bVal i e) hvle (hvb e))), ?_⟩ | refine .inl ⟨_, by (intros; exact Or.inl ⟨lsize_ok (bVal i e) hvle (hvb e), rfl⟩), ?_⟩ | refine .inl ⟨_, fun hb => .inl ⟨_, lsize_ok (bVal i e) hvle (hvb e), by (try simp); exact ⟨rfl, rfl⟩⟩, ?_⟩
        repeat' (first | apply And.intro | intro _)
        any_goals (first | (refine hR32 _ ?_; clear hR32) | (first | omega | (simp only [IntKind.wrap_i64] at *; omega) | (simp_all; done) | (simp_all; omega)))
        refine runs_cut 3 fun R33 hR33 => ?_
        try simp (maxSteps := 1000000) [bookV, hr1, hr2, fa, hel, hzf, hze, List.take_succ_cons, List.take_zero, List.drop_succ_cons, List.drop_zero]
        repeat' (first | apply And.intro | intro _)
        any_goals (first | (refine hR33 _ ?_; clear hR33) | (first | omega | (simp only [IntKind.wrap_i64] at *; omega) | (simp_all; done) | (simp_all; omega)))
        refine runs_cut 1 fun R34 hR34 => ?_
        try simp (maxSteps := 1000000) [bookV, hr1, hr2, fa, hel, hzf, hze, List.take_succ_cons, List.take_zero, List.drop_succ_cons, List.drop_zero]
        first | refine .inl ⟨_, fun hb => .inl ⟨lsize_ok (bVal i f) hvlf (hvb f), rfl⟩, ?_⟩ | refine .inl ⟨_, .inl ⟨lsize_ok (bVal i f) hvlf (hvb f), rfl⟩, ?_⟩ | refine .inl ⟨_, fun hb => .inl (lsize_ok (bVal i f) hvlf (hvb f)), ?_⟩ | refine .inl ⟨_, .inl (lsize_ok (bVal i f) hvlf (hvb f)), ?_⟩ | refine .inl ⟨_, by (intros; exact Or.inl (lsize_ok (bVal i f) hvlf (hvb f))), ?_⟩ | refine .inl ⟨_, by (intros; exact Or.inl ⟨lsize_ok (bVal i f) hvlf (hvb f), rfl⟩), ?_⟩ | refine .inl ⟨_, fun hb => .inl ⟨_, lsize_ok (bVal i f) hvlf (hvb f), by (try simp); exact ⟨rfl, rfl⟩⟩, ?_⟩
        repeat' (first | apply And.intro | intro _)
        any_goals (first | (refine hR34 _ ?_; clear hR34) | (first | omega | (simp only [IntKind.wrap_i64] at *; omega) | (simp_all; done) | (simp_all; omega)))
        refine runs_cut 1 fun R35 hR35 => ?_
        try simp (maxSteps := 1000000) [bookV, hr1, hr2, fa, hel, hzf, hze, List.take_succ_cons, List.take_zero, List.drop_succ_cons, List.drop_zero]
        repeat' (first | apply And.intro | intro _)
        any_goals (first | (refine hR35 _ ?_; clear hR35) | (first | omega | (simp only [IntKind.wrap_i64] at *; omega) | (simp_all; done) | (simp_all; omega)))
        refine runs_cut 1 fun R36 hR36 => ?_
        try simp (maxSteps := 1000000) [bookV, hr1, hr2, fa, hel, hzf, hze, List.take_succ_cons, List.take_zero, List.drop_succ_cons, List.drop_zero]
        first | refine .inl ⟨_, fun hb => .inl ⟨lsize_ok (bVal i e) hvle (hvb e), rfl⟩, ?_⟩ | refine .inl ⟨_, .inl ⟨lsize_ok (bVal i e) hvle (hvb e), rfl⟩, ?_⟩ | refine .inl ⟨_, fun hb => .inl (lsize_ok (bVal i e) hvle (hvb e)), ?_⟩ | refine .inl ⟨_, .inl (lsize_ok (bVal i e) hvle (hvb e)), ?_⟩ | refine .inl ⟨_, by (intros; exact Or.inl (lsize_ok (bVal i e) hvle (hvb e))), ?_⟩ | refine .inl ⟨_, by (intros; exact Or.inl ⟨lsize_ok (bVal i e) hvle (hvb e), rfl⟩), ?_⟩ | refine .inl ⟨_, fun hb => .inl ⟨_, lsize_ok (bVal i e) hvle (hvb e), by (try simp); exact ⟨rfl, rfl⟩⟩, ?_⟩
        repeat' (first | apply And.intro | intro _)
        any_goals (first | (refine hR36 _ ?_; clear hR36) | (first | omega | (simp only [IntKind.wrap_i64] at *; omega) | (simp_all; done) | (simp_all; omega)))
        refine runs_cut 7 fun R37 hR37 => ?_
        try simp (maxSteps := 1000000) [bookV, hr1, hr2, fa, hel, hzf, hze, List.take_succ_cons, List.take_zero, List.drop_succ_cons, List.drop_zero]
        repeat' (first | apply And.intro | intro _)
        any_goals (first | (refine hR37 _ ?_; clear hR37) | (first | omega | (simp only [IntKind.wrap_i64] at *; omega) | (simp_all; done) | (simp_all; omega)))
        try simp (maxSteps := 1000000) [bookV, hr1, hr2, fa, hel, hzf, hze, List.take_succ_cons, List.take_zero, List.drop_succ_cons, List.drop_zero]
        repeat' (first | apply And.intro | intro _)
        any_goals (first | (refine hK28 _ ?_; clear hK28) | (first | omega | (simp only [IntKind.wrap_i64] at *; omega) | (simp_all; done) | (simp_all; omega)))
        refine swp_ret ?_
        simp [fnPost, Try.results7, resP, tupOf]
        omega

end Go.Proofs.Ytjkpbhjppjamnaa

