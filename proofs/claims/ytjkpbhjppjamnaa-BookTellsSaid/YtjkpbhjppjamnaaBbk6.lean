import Derived.Test.YtjkpbhjppjamnaaWb
import Derived.Test.YtjkpbhjppjamnaaTyb
import Derived.Test.YtjkpbhjppjamnaaBkq
import Derived.Test.YtjkpbhjppjamnaaBsrt
import Derived.Test.YtjkpbhjppjamnaaBbk
import Derived.Test.YtjkpbhjppjamnaaBbk2
import Derived.Test.YtjkpbhjppjamnaaBbk3
import Derived.Test.YtjkpbhjppjamnaaBbits
import Derived.Test.YtjkpbhjppjamnaaBrd
import Derived.Test.YtjkpbhjppjamnaaBrdq
import Derived.Test.YtjkpbhjppjamnaaBbits2
import Derived.Test.YtjkpbhjppjamnaaBbk4
import Derived.Test.YtjkpbhjppjamnaaBbk5
namespace Go.Proofs.Ytjkpbhjppjamnaa
set_option linter.unusedVariables false
set_option linter.unusedSimpArgs false
set_option maxRecDepth 10000
open Go Go.Pv

open Go.RowKit
attribute [local simp] runs gd step1 need evu un opnds opv ev cst cst1 cstL getT getH putT onL nxt argT cellsOf PV.one thn inBlk jmp fldP ldP ldC live Cells.len Cells.get Cells.w sug ldv bin eqF eq1 ops2 sh2 binv Tk.agg stC apC rdS apS mvL zp argsP idx fillP toInts chunks mkC ixS ixA oidx slP sl0 slA optL List.append mxF bltn frzA frz frzL frz1 pur1 Cells.pur PV.scal scal1 runD rdO PV.ids id1 zids ety Eff.on cnd minb and1b ifmax ifmin mxv sugI strv w0 w1 w2 wm1
theorem rget_book (i : Nat) (h1 : 1 ≤ i) (h2 : i ≤ 12)  : PCall Try.prog 16 [.int .i64 (i : Nat)] (.tup [bookV i, .int .i64 0]) := by
  refine pcall_body ty_ok Try.func16 rfl (by rfl) (by simp) ?_
  rw [Try.ntmps16]
  refine swp_seq fun K1 hK1 => ?_
  refine swp_region ty_ok ?_
  try simp (maxSteps := 1000000) [bookV]
  repeat' (first | apply And.intro | intro _)
  any_goals (first | (refine hK1 _ ?_; clear hK1) | (first | omega | (simp only [IntKind.wrap_i64] at *; omega) | (simp_all; done) | (simp_all; omega)))
  refine swp_seq fun K2 hK2 => ?_
  refine swp_seq fun K3 hK3 => ?_
  refine swp_region ty_ok ?_
  try simp (maxSteps := 1000000) [bookV]
  repeat' (first | apply And.intro | intro _)
  any_goals (first | (refine hK3 _ ?_; clear hK3) | (first | omega | (simp only [IntKind.wrap_i64] at *; omega) | (simp_all; done) | (simp_all; omega)))
  refine swp_if fun C4 hC4 => ?_
  try simp (maxSteps := 1000000) [bookV]
  refine hC4 _ (fun hc4 => ?_) (fun hc4 => ?_)
  · exfalso
    have h := hc4
    simp at h
    omega
  · clear hC4
    try simp at hc4
    refine swp_skip ?_
    try simp only [thn, inBlk]
    refine hK2 _ ?_; clear hK2
    refine swp_seq fun K5 hK5 => ?_
    refine swp_region ty_ok ?_
    refine runs_cut 1 fun R6 hR6 => ?_
    try simp (maxSteps := 1000000) [bookV, List.take_succ_cons, List.take_zero, List.drop_succ_cons, List.drop_zero]
    repeat' (first | apply And.intro | intro _)
    any_goals (first | (refine hR6 _ ?_; clear hR6) | (first | omega | (simp only [IntKind.wrap_i64] at *; omega) | (simp_all; done) | (simp_all; omega)))
    refine runs_cut 1 fun R7 hR7 => ?_
    try simp (maxSteps := 1000000) [bookV, List.take_succ_cons, List.take_zero, List.drop_succ_cons, List.drop_zero]
    refine .inl ⟨_, rbook_ok i h1 h2, ?_⟩
    try simp (maxSteps := 1000000) [bookV]
    repeat' (first | apply And.intro | intro _)
    any_goals (first | (refine hR7 _ ?_; clear hR7) | (first | omega | (simp only [IntKind.wrap_i64] at *; omega) | (simp_all; done) | (simp_all; omega)))
    try simp (maxSteps := 1000000) [bookV, List.take_succ_cons, List.take_zero, List.drop_succ_cons, List.drop_zero]
    repeat' (first | apply And.intro | intro _)
    any_goals (first | (refine hK5 _ ?_; clear hK5) | (first | omega | (simp only [IntKind.wrap_i64] at *; omega) | (simp_all; done) | (simp_all; omega)))
    refine swp_ret ?_
    simp [fnPost, Try.results16, resP, tupOf]
    rfl

theorem rget_bno (n : Int) (h : n < 1 ∨ 12 < n) : PCall Try.prog 16 [.int .i64 n] (.tup [.agg [.int .i64 0, .int .i64 0, .ro (.ints .i64 []), .ro (.ints .i64 [])], .int .i64 2]) := by
  refine pcall_body ty_ok Try.func16 rfl (by rfl) (by simp) ?_
  rw [Try.ntmps16]
  refine swp_seq fun K1 hK1 => ?_
  refine swp_region ty_ok ?_
  try simp (maxSteps := 1000000)
  repeat' (first | apply And.intro | intro _)
  any_goals (first | (refine hK1 _ ?_; clear hK1) | (first | omega | (simp only [IntKind.wrap_i64] at *; omega) | (simp_all; done) | (simp_all; omega)))
  refine swp_seq fun K2 hK2 => ?_
  refine swp_seq fun K3 hK3 => ?_
  refine swp_region ty_ok ?_
  try simp (maxSteps := 1000000)
  repeat' (first | apply And.intro | intro _)
  any_goals (first | (refine hK3 _ ?_; clear hK3) | (first | omega | (simp only [IntKind.wrap_i64] at *; omega) | (simp_all; done) | (simp_all; omega)))
  refine swp_if fun C4 hC4 => ?_
  try simp (maxSteps := 1000000)
  refine hC4 _ (fun hc4 => ?_) (fun hc4 => ?_)
  · clear hC4
    try simp at hc4
    refine swp_seq fun K5 hK5 => ?_
    refine swp_region ty_ok ?_
    try simp (maxSteps := 1000000)
    repeat' (first | apply And.intro | intro _)
    any_goals (first | (refine hK5 _ ?_; clear hK5) | (first | omega | (simp only [IntKind.wrap_i64] at *; omega) | (simp_all; done) | (simp_all; omega)))
    refine swp_ret ?_
    simp [fnPost, Try.results16, resP, tupOf]
  · exfalso
    have h := hc4
    simp at h
    omega

theorem rvalu_ok (i : Nat) (h1 : 1 ≤ i) (h2 : i ≤ 12) (e : Nat) (he : e < bMany i) : PCall Try.prog 18 [.int .i64 (i : Nat), .int .i64 (e : Nat)] (.tup [.ro (.ints .i64 (bVal i e)), .int .i64 0]) := by
  refine pcall_body ty_ok Try.func18 rfl (by rfl) (by simp) ?_
  rw [Try.ntmps18]
  refine swp_seq fun K1 hK1 => ?_
  refine swp_region ty_ok ?_
  try simp (maxSteps := 1000000)
  repeat' (first | apply And.intro | intro _)
  any_goals (first | (refine hK1 _ ?_; clear hK1) | (first | omega | (simp only [IntKind.wrap_i64] at *; omega) | (simp_all; done) | (simp_all; omega)))
  refine swp_seq fun K2 hK2 => ?_
  refine swp_seq fun K3 hK3 => ?_
  refine swp_region ty_ok ?_
  refine runs_cut 6 fun R4 hR4 => ?_
  try simp (maxSteps := 1000000) [List.take_succ_cons, List.take_zero, List.drop_succ_cons, List.drop_zero]
  repeat' (first | apply And.intro | intro _)
  any_goals (first | (refine hR4 _ ?_; clear hR4) | (first | omega | (simp only [IntKind.wrap_i64] at *; omega) | (simp_all; done) | (simp_all; omega)))
  refine runs_cut 7 fun R5 hR5 => ?_
  try simp (maxSteps := 1000000) [List.take_succ_cons, List.take_zero, List.drop_succ_cons, List.drop_zero]
  repeat' (first | apply And.intro | intro _)
  any_goals (first | (refine hR5 _ ?_; clear hR5) | (first | omega | (simp only [IntKind.wrap_i64] at *; omega) | (simp_all; done) | (simp_all; omega)))
  refine runs_cut 1 fun R6 hR6 => ?_
  try simp (maxSteps := 1000000) [List.take_succ_cons, List.take_zero, List.drop_succ_cons, List.drop_zero]
  first | refine .inl ⟨_, fun hb => .inl ⟨rmany_ok i h1 h2, rfl⟩, ?_⟩ | refine .inl ⟨_, .inl ⟨rmany_ok i h1 h2, rfl⟩, ?_⟩ | refine .inl ⟨_, fun hb => .inl (rmany_ok i h1 h2), ?_⟩ | refine .inl ⟨_, .inl (rmany_ok i h1 h2), ?_⟩ | refine .inl ⟨_, by (intros; exact Or.inl (rmany_ok i h1 h2)), ?_⟩ | refine .inl ⟨_, by (intros; exact Or.inl ⟨rmany_ok i h1 h2, rfl⟩), ?_⟩ | refine .inl ⟨_, fun hb => .inl ⟨_, rmany_ok i h1 h2, by (try simp); exact ⟨rfl, rfl⟩⟩, ?_⟩
  repeat' (first | apply And.intro | intro _)
  any_goals (first | (refine hR6 _ ?_; clear hR6) | (first | omega | (simp only [IntKind.wrap_i64] at *; omega) | (simp_all; done) | (simp_all; omega)))
  try simp (maxSteps := 1000000) [List.take_succ_cons, List.take_zero, List.drop_succ_cons, List.drop_zero]
  repeat' (first | apply And.intro | intro _)
  any_goals (first | (refine hK3 _ ?_; clear hK3) | (first | omega | (simp only [IntKind.wrap_i64] at *; omega) | (simp_all; done) | (simp_all; omega)))
  refine swp_if fun C7 hC7 => ?_
  try simp (maxSteps := 1000000)
  refine hC7 _ (fun hc7 => ?_) (fun hc7 => ?_)
  · exfalso
    have h := hc7
    simp at h
    omega
  · clear hC7
    try simp at hc7
    refine swp_skip ?_
    try simp only [thn, inBlk]
    refine hK2 _ ?_; clear hK2
    refine swp_seq fun K8 hK8 => ?_
    refine swp_region ty_ok ?_
    refine runs_cut 2 fun R9 hR9 => ?_
    try simp (maxSteps := 1000000) [List.take_succ_cons, List.take_zero, List.drop_succ_cons, List.drop_zero]
    repeat' (first | apply And.intro | intro _)
    any_goals (first | (refine hR9 _ ?_; clear hR9) | (first | omega | (simp only [IntKind.wrap_i64] at *; omega) | (simp_all; done) | (simp_all; omega)))
    refine runs_cut 1 fun R10 hR10 => ?_
    try simp (maxSteps := 1000000) [List.take_succ_cons, List.take_zero, List.drop_succ_cons, List.drop_zero]
    refine .inl ⟨_, rof_ok i h1 h2 e he, ?_⟩
    try simp (maxSteps := 1000000)
    repeat' (first | apply And.intro | intro _)
    any_goals (first | (refine hR10 _ ?_; clear hR10) | (first | omega | (simp only [IntKind.wrap_i64] at *; omega) | (simp_all; done) | (simp_all; omega)))
    try simp (maxSteps := 1000000) [List.take_succ_cons, List.take_zero, List.drop_succ_cons, List.drop_zero]
    repeat' (first | apply And.intro | intro _)
    any_goals (first | (refine hK8 _ ?_; clear hK8) | (first | omega | (simp only [IntKind.wrap_i64] at *; omega) | (simp_all; done) | (simp_all; omega)))
    refine swp_ret ?_
    simp [fnPost, Try.results18, resP, tupOf]

theorem rvalu_e (i : Nat) (h1 : 1 ≤ i) (h2 : i ≤ 12) (e : Int) (he : e < 0 ∨ bMany i ≤ e) : PCall Try.prog 18 [.int .i64 (i : Nat), .int .i64 e] (.tup [.ro (.ints .i64 []), .int .i64 2]) := by
  refine pcall_body ty_ok Try.func18 rfl (by rfl) (by simp) ?_
  rw [Try.ntmps18]
  refine swp_seq fun K1 hK1 => ?_
  refine swp_region ty_ok ?_
  try simp (maxSteps := 1000000)
  repeat' (first | apply And.intro | intro _)
  any_goals (first | (refine hK1 _ ?_; clear hK1) | (first | omega | (simp only [IntKind.wrap_i64] at *; omega) | (simp_all; done) | (simp_all; omega)))
  refine swp_seq fun K2 hK2 => ?_
  refine swp_seq fun K3 hK3 => ?_
  refine swp_region ty_ok ?_
  refine runs_cut 6 fun R4 hR4 => ?_
  try simp (maxSteps := 1000000) [List.take_succ_cons, List.take_zero, List.drop_succ_cons, List.drop_zero]
  repeat' (first | apply And.intro | intro _)
  any_goals (first | (refine hR4 _ ?_; clear hR4) | (first | omega | (simp only [IntKind.wrap_i64] at *; omega) | (simp_all; done) | (simp_all; omega)))
  refine runs_cut 7 fun R5 hR5 => ?_
  try simp (maxSteps := 1000000) [List.take_succ_cons, List.take_zero, List.drop_succ_cons, List.drop_zero]
  repeat' (first | apply And.intro | intro _)
  any_goals (first | (refine hR5 _ ?_; clear hR5) | (first | omega | (simp only [IntKind.wrap_i64] at *; omega) | (simp_all; done) | (simp_all; omega)))
  refine runs_cut 1 fun R6 hR6 => ?_
  try simp (maxSteps := 1000000) [List.take_succ_cons, List.take_zero, List.drop_succ_cons, List.drop_zero]
  first | refine .inl ⟨_, fun hb => .inl ⟨rmany_ok i h1 h2, rfl⟩, ?_⟩ | refine .inl ⟨_, .inl ⟨rmany_ok i h1 h2, rfl⟩, ?_⟩ | refine .inl ⟨_, fun hb => .inl (rmany_ok i h1 h2), ?_⟩ | refine .inl ⟨_, .inl (rmany_ok i h1 h2), ?_⟩ | refine .inl ⟨_, by (intros; exact Or.inl (rmany_ok i h1 h2)), ?_⟩ | refine .inl ⟨_, by (intros; exact Or.inl ⟨rmany_ok i h1 h2, rfl⟩), ?_⟩ | refine .inl ⟨_, fun hb => .inl ⟨_, rmany_ok i h1 h2, by (try simp); exact ⟨rfl, rfl⟩⟩, ?_⟩
  repeat' (first | apply And.intro | intro _)
  any_goals (first | (refine hR6 _ ?_; clear hR6) | (first | omega | (simp only [IntKind.wrap_i64] at *; omega) | (simp_all; done) | (simp_all; omega)))
  try simp (maxSteps := 1000000) [List.take_succ_cons, List.take_zero, List.drop_succ_cons, List.drop_zero]
  repeat' (first | apply And.intro | intro _)
  any_goals (first | (refine hK3 _ ?_; clear hK3) | (first | omega | (simp only [IntKind.wrap_i64] at *; omega) | (simp_all; done) | (simp_all; omega)))
  refine swp_if fun C7 hC7 => ?_
  try simp (maxSteps := 1000000)
  refine hC7 _ (fun hc7 => ?_) (fun hc7 => ?_)
  · clear hC7
    try simp at hc7
    refine swp_seq fun K8 hK8 => ?_
    refine swp_region ty_ok ?_
    try simp (maxSteps := 1000000)
    repeat' (first | apply And.intro | intro _)
    any_goals (first | (refine hK8 _ ?_; clear hK8) | (first | omega | (simp only [IntKind.wrap_i64] at *; omega) | (simp_all; done) | (simp_all; omega)))
    refine swp_ret ?_
    simp [fnPost, Try.results18, resP, tupOf]
  · exfalso
    have h := hc7
    simp at h
    omega

theorem rvalu_no (n : Int) (h : n < 1 ∨ 12 < n) (e : Int) : PCall Try.prog 18 [.int .i64 n, .int .i64 e] (.tup [.ro (.ints .i64 []), .int .i64 2]) := by
  refine pcall_body ty_ok Try.func18 rfl (by rfl) (by simp) ?_
  rw [Try.ntmps18]
  refine swp_seq fun K1 hK1 => ?_
  refine swp_region ty_ok ?_
  try simp (maxSteps := 1000000)
  repeat' (first | apply And.intro | intro _)
  any_goals (first | (refine hK1 _ ?_; clear hK1) | (first | omega | (simp only [IntKind.wrap_i64] at *; omega) | (simp_all; done) | (simp_all; omega)))
  refine swp_seq fun K2 hK2 => ?_
  refine swp_seq fun K3 hK3 => ?_
  refine swp_region ty_ok ?_
  refine runs_cut 6 fun R4 hR4 => ?_
  try simp (maxSteps := 1000000) [List.take_succ_cons, List.take_zero, List.drop_succ_cons, List.drop_zero]
  repeat' (first | apply And.intro | intro _)
  any_goals (first | (refine hR4 _ ?_; clear hR4) | (first | omega | (simp only [IntKind.wrap_i64] at *; omega) | (simp_all; done) | (simp_all; omega)))
  refine runs_cut 7 fun R5 hR5 => ?_
  try simp (maxSteps := 1000000) [List.take_succ_cons, List.take_zero, List.drop_succ_cons, List.drop_zero]
  repeat' (first | apply And.intro | intro _)
  any_goals (first | (refine hR5 _ ?_; clear hR5) | (first | omega | (simp only [IntKind.wrap_i64] at *; omega) | (simp_all; done) | (simp_all; omega)))
  refine runs_cut 1 fun R6 hR6 => ?_
  try simp (maxSteps := 1000000) [List.take_succ_cons, List.take_zero, List.drop_succ_cons, List.drop_zero]
  refine .inl ⟨.int .i64 0, (by intros; exfalso; omega), ?_⟩
  repeat' (first | apply And.intro | intro _)
  any_goals (first | (refine hR6 _ ?_; clear hR6) | (first | omega | (simp only [IntKind.wrap_i64] at *; omega) | (simp_all; done) | (simp_all; omega)))
  try simp (maxSteps := 1000000) [List.take_succ_cons, List.take_zero, List.drop_succ_cons, List.drop_zero]
  repeat' (first | apply And.intro | intro _)
  any_goals (first | (refine hK3 _ ?_; clear hK3) | (first | omega | (simp only [IntKind.wrap_i64] at *; omega) | (simp_all; done) | (simp_all; omega)))
  refine swp_if fun C7 hC7 => ?_
  try simp (maxSteps := 1000000)
  refine hC7 _ (fun hc7 => ?_) (fun hc7 => ?_)
  · clear hC7
    try simp at hc7
    refine swp_seq fun K8 hK8 => ?_
    refine swp_region ty_ok ?_
    try simp (maxSteps := 1000000)
    repeat' (first | apply And.intro | intro _)
    any_goals (first | (refine hK8 _ ?_; clear hK8) | (first | omega | (simp only [IntKind.wrap_i64] at *; omega) | (simp_all; done) | (simp_all; omega)))
    refine swp_ret ?_
    simp [fnPost, Try.results18, resP, tupOf]
  · exfalso
    have h := hc7
    simp at h
    omega

theorem rent_no (n : Int) (h : n < 1 ∨ 12 < n) (vs : List Int) : PCall Try.prog 20 [.int .i64 n, .ro (.ints .i64 vs)] (.tup [.int .i64 0, .int .i64 2]) := by
  refine pcall_body ty_ok Try.func20 rfl (by rfl) (by simp) ?_
  rw [Try.ntmps20]
  refine swp_seq fun K1 hK1 => ?_
  refine swp_region ty_ok ?_
  try simp (maxSteps := 1000000)
  repeat' (first | apply And.intro | intro _)
  any_goals (first | (refine hK1 _ ?_; clear hK1) | (first | omega | (simp only [IntKind.wrap_i64] at *; omega) | (simp_all; done) | (simp_all; omega)))
  refine swp_seq fun K2 hK2 => ?_
  refine swp_seq fun K3 hK3 => ?_
  refine swp_region ty_ok ?_
  try simp (maxSteps := 1000000)
  repeat' (first | apply And.intro | intro _)
  any_goals (first | (refine hK3 _ ?_; clear hK3) | (first | omega | (simp only [IntKind.wrap_i64] at *; omega) | (simp_all; done) | (simp_all; omega)))
  refine swp_if fun C4 hC4 => ?_
  try simp (maxSteps := 1000000)
  refine hC4 _ (fun hc4 => ?_) (fun hc4 => ?_)
  · clear hC4
    try simp at hc4
    refine swp_seq fun K5 hK5 => ?_
    refine swp_region ty_ok ?_
    try simp (maxSteps := 1000000)
    repeat' (first | apply And.intro | intro _)
    any_goals (first | (refine hK5 _ ?_; clear hK5) | (first | omega | (simp only [IntKind.wrap_i64] at *; omega) | (simp_all; done) | (simp_all; omega)))
    refine swp_ret ?_
    simp [fnPost, Try.results20, resP, tupOf]
  · exfalso
    have h := hc4
    simp at h
    omega

theorem ent_no (n : Int) (h : n < 1 ∨ 12 < n) (vs : List Int) : PCall Try.prog 19 [.int .i64 n, .ro (.ints .i64 vs)] (.tup [.int .i64 0, .int .i64 2]) := by
  refine pcall_body ty_ok Try.func19 rfl (by rfl) (by simp) ?_
  rw [Try.ntmps19]
  refine swp_seq fun K1 hK1 => ?_
  refine swp_region ty_ok ?_
  try simp (maxSteps := 1000000)
  repeat' (first | apply And.intro | intro _)
  any_goals (first | (refine hK1 _ ?_; clear hK1) | (first | omega | (simp only [IntKind.wrap_i64] at *; omega) | (simp_all; done) | (simp_all; omega)))
  refine swp_seq fun K2 hK2 => ?_
  refine swp_region ty_ok ?_
  refine runs_cut 1 fun R3 hR3 => ?_
  try simp (maxSteps := 1000000) [List.take_succ_cons, List.take_zero, List.drop_succ_cons, List.drop_zero]
  repeat' (first | apply And.intro | intro _)
  any_goals (first | (refine hR3 _ ?_; clear hR3) | (first | omega | (simp only [IntKind.wrap_i64] at *; omega) | (simp_all; done) | (simp_all; omega)))
  refine runs_cut 1 fun R4 hR4 => ?_
  try simp (maxSteps := 1000000) [List.take_succ_cons, List.take_zero, List.drop_succ_cons, List.drop_zero]
  refine .inl ⟨_, of_no n h, ?_⟩
  try simp (maxSteps := 1000000)
  repeat' (first | apply And.intro | intro _)
  any_goals (first | (refine hR4 _ ?_; clear hR4) | (first | omega | (simp only [IntKind.wrap_i64] at *; omega) | (simp_all; done) | (simp_all; omega)))
  try simp (maxSteps := 1000000) [List.take_succ_cons, List.take_zero, List.drop_succ_cons, List.drop_zero]
  repeat' (first | apply And.intro | intro _)
  any_goals (first | (refine hK2 _ ?_; clear hK2) | (first | omega | (simp only [IntKind.wrap_i64] at *; omega) | (simp_all; done) | (simp_all; omega)))
  refine swp_seq fun K5 hK5 => ?_
  refine swp_block ?_
  refine swp_seq fun K6 hK6 => ?_
  refine swp_region ty_ok ?_
  try simp (maxSteps := 1000000)
  repeat' (first | apply And.intro | intro _)
  any_goals (first | (refine hK6 _ ?_; clear hK6) | (first | omega | (simp only [IntKind.wrap_i64] at *; omega) | (simp_all; done) | (simp_all; omega)))
  refine swp_if fun C7 hC7 => ?_
  try simp (maxSteps := 1000000)
  refine hC7 _ (fun hc7 => ?_) (fun hc7 => ?_)
  · clear hC7
    try simp at hc7
    refine swp_seq fun K8 hK8 => ?_
    refine swp_region ty_ok ?_
    try simp (maxSteps := 1000000)
    repeat' (first | apply And.intro | intro _)
    any_goals (first | (refine hK8 _ ?_; clear hK8) | (first | omega | (simp only [IntKind.wrap_i64] at *; omega) | (simp_all; done) | (simp_all; omega)))
    refine swp_ret ?_
    simp [fnPost, Try.results19, resP, tupOf]
  · exact absurd hc7 (by simp)

theorem rent_ok (i : Nat) (h1 : 1 ≤ i) (h2 : i ≤ 12) (vs : List Int) : PCall Try.prog 20 [.int .i64 (i : Nat), .ro (.ints .i64 vs)] (.tup [.int .i64 (entV i vs), .int .i64 (entE i vs)]) := by
  have hB := bk_ok h1 h2
  have hdim := hB.dim
  have hlow := hB.low
  have hhigh := hB.high
  have hwide := hB.wide
  have hmany := hB.many
  have hplain := hB.plain
  have hs : IntKind.i64.wrap (bHigh i - bLow i) = bHigh i - bLow i := w64 (by omega)
  have hs2 : IntKind.i64.wrap (bHigh i - bLow i + 1) = (bWide i : Nat) := by rw [w64 (by omega)]; omega
  refine pcall_body ty_ok Try.func20 rfl (by rfl) (by simp) ?_
  rw [Try.ntmps20]
  refine swp_seq fun K1 hK1 => ?_
  refine swp_region ty_ok ?_
  try simp (maxSteps := 1000000)
  repeat' (first | apply And.intro | intro _)
  any_goals (first | (refine hK1 _ ?_; clear hK1) | (first | omega | (simp only [IntKind.wrap_i64] at *; omega) | (simp_all; done) | (simp_all; omega)))
  refine swp_seq fun K2 hK2 => ?_
  refine swp_seq fun K3 hK3 => ?_
  refine swp_region ty_ok ?_
  try simp (maxSteps := 1000000)
  repeat' (first | apply And.intro | intro _)
  any_goals (first | (refine hK3 _ ?_; clear hK3) | (first | omega | (simp only [IntKind.wrap_i64] at *; omega) | (simp_all; done) | (simp_all; omega)))
  refine swp_if fun C4 hC4 => ?_
  try simp (maxSteps := 1000000)
  refine hC4 _ (fun hc4 => ?_) (fun hc4 => ?_)
  · exfalso
    have h := hc4
    simp at h
    omega
  · clear hC4
    try simp at hc4
    refine swp_skip ?_
    try simp only [thn, inBlk]
    refine hK2 _ ?_; clear hK2
    refine swp_seq fun K5 hK5 => ?_
    refine swp_seq fun K6 hK6 => ?_
    refine swp_region ty_ok ?_
    refine runs_cut 3 fun R7 hR7 => ?_
    try simp (maxSteps := 1000000) [List.take_succ_cons, List.take_zero, List.drop_succ_cons, List.drop_zero]
    repeat' (first | apply And.intro | intro _)
    any_goals (first | (refine hR7 _ ?_; clear hR7) | (first | omega | (simp only [IntKind.wrap_i64] at *; omega) | (simp_all; done) | (simp_all; omega)))
    refine runs_cut 1 fun R8 hR8 => ?_
    try simp (maxSteps := 1000000) [List.take_succ_cons, List.take_zero, List.drop_succ_cons, List.drop_zero]
    refine .inl ⟨_, dim_ok i h1 h2, ?_⟩
    try simp (maxSteps := 1000000)
    repeat' (first | apply And.intro | intro _)
    any_goals (first | (refine hR8 _ ?_; clear hR8) | (first | omega | (simp only [IntKind.wrap_i64] at *; omega) | (simp_all; done) | (simp_all; omega)))
    try simp (maxSteps := 1000000) [List.take_succ_cons, List.take_zero, List.drop_succ_cons, List.drop_zero]
    repeat' (first | apply And.intro | intro _)
    any_goals (first | (refine hK6 _ ?_; clear hK6) | (first | omega | (simp only [IntKind.wrap_i64] at *; omega) | (simp_all; done) | (simp_all; omega)))
    refine swp_if fun C9 hC9 => ?_
    try simp (maxSteps := 1000000)
    refine hC9 _ (fun hc9 => ?_) (fun hc9 => ?_)
    · clear hC9
      try simp at hc9
      refine swp_seq fun K10 hK10 => ?_
      refine swp_region ty_ok ?_
      try simp (maxSteps := 1000000)
      repeat' (first | apply And.intro | intro _)
      any_goals (first | (refine hK10 _ ?_; clear hK10) | (first | omega | (simp only [IntKind.wrap_i64] at *; omega) | (simp_all; done) | (simp_all; omega)))
      refine swp_ret ?_
      simp [fnPost, Try.results20, resP, tupOf]
      obtain ⟨h1, h2⟩ := entE_many (i := i) (vs := vs) (by have h := hc9; omega)
      exact ⟨h2, h1⟩
    · clear hC9
      try simp at hc9
      refine swp_skip ?_
      try simp only [thn, inBlk]
      refine hK5 _ ?_; clear hK5
      refine swp_seq fun K11 hK11 => ?_
      refine swp_region ty_ok ?_
      try simp (maxSteps := 1000000)
      repeat' (first | apply And.intro | intro _)
      any_goals (first | (refine hK11 _ ?_; clear hK11) | (first | omega | (simp only [IntKind.wrap_i64] at *; omega) | (simp_all; done) | (simp_all; omega)))
      refine swp_seq fun K12 hK12 => ?_
      refine swp_seq fun K13 hK13 => ?_
      refine swp_region ty_ok ?_
      try simp (maxSteps := 1000000)
      repeat' (first | apply And.intro | intro _)
      any_goals (first | (refine hK13 _ ?_; clear hK13) | (first | omega | (simp only [IntKind.wrap_i64] at *; omega) | (simp_all; done) | (simp_all; omega)))
      refine swp_block ?_
      have hlen : vs.length = bDim i := (by have h := hc9; omega)
      refine swp_loop 0 (fun m_ s_ => ∃ (j : Nat), (j ≤ vs.length) ∧ (∀ v ∈ vs.take j, inR i v = true) ∧ s_ = ⟨[(0, .int .i64 (i : Nat)), (1, .ro (.ints .i64 vs)), (6, .int .i64 (entN i (vs.take j) : Nat)), (7, .int .i64 (j : Nat))], [], 0⟩ ∧ m_ = vs.length - j) _ ⟨[(0, .int .i64 (i : Nat)), (1, .ro (.ints .i64 vs)), (6, .int .i64 (entN i (vs.take 0) : Nat)), (7, .int .i64 (0 : Nat))], [], 0⟩ ⟨by simp [getT, PV.lo, lo1, entN], by simp [getH, Blk.lo, Cells.lo, lo1], rfl, by omega⟩ ⟨(0), by omega, by simp, rfl, rfl⟩ ?_
      rintro m_ s_ ⟨j, hL14_0, hL14_1, rfl, rfl⟩ KL14 hL14
      have hjw := wnext (i := j) (by omega)
      have hall := (by assumption : ∀ v ∈ vs.take j, inR i v = true)
      refine swp_seq fun K15 hK15 => ?_
      refine swp_seq fun K16 hK16 => ?_
      refine swp_region ty_ok ?_
      try simp (maxSteps := 1000000)
      repeat' (first | apply And.intro | intro _)
      any_goals (first | (refine hK16 _ ?_; clear hK16) | (first | omega | (simp only [IntKind.wrap_i64] at *; omega) | (simp_all; done) | (simp_all; omega)))
      refine swp_if fun C17 hC17 => ?_
      try simp (maxSteps := 1000000)
      refine hC17 _ (fun hc17 => ?_) (fun hc17 => ?_)
      · clear hC17
        try simp at hc17
        refine swp_skip ?_
        try simp only [thn, inBlk]
        refine hK15 _ ?_; clear hK15
        refine swp_seq fun K18 hK18 => ?_
        refine swp_block ?_
        refine swp_seq fun K19 hK19 => ?_
        refine swp_seq fun K20 hK20 => ?_
        refine swp_draw ty_ok mixed (ms := [0, 0, 3, 7, 0, 16, 63, 127, 255, 255, 1023, 2047, 255, 4351, 16383, 32767]) (by kernel_rfl) ?_
        refine runD_cut 5 fun R21 hR21 => ?_
        try simp (maxSteps := 1000000) [List.take_succ_cons, List.take_zero, List.drop_succ_cons, List.drop_zero]
        repeat' (first | apply And.intro | intro _)
        any_goals (first | (refine hR21 _ _ _ _ ?_; clear hR21) | (first | omega | (simp only [IntKind.wrap_i64] at *; omega) | (simp_all; done) | (simp_all; omega)))
        refine runD_cut 1 fun R22 hR22 => ?_
        try simp (maxSteps := 1000000) [List.take_succ_cons, List.take_zero, List.drop_succ_cons, List.drop_zero]
        refine .inl ⟨_, low_ok i h1 h2, ?_⟩
        try simp (maxSteps := 1000000)
        repeat' (first | apply And.intro | intro _)
        any_goals (first | (refine hR22 _ _ _ _ ?_; clear hR22) | (first | omega | (simp only [IntKind.wrap_i64] at *; omega) | (simp_all; done) | (simp_all; omega)))
        refine runD_cut 7 fun R23 hR23 => ?_
        try simp (maxSteps := 1000000) [List.take_succ_cons, List.take_zero, List.drop_succ_cons, List.drop_zero]
        repeat' (first | apply And.intro | intro _)
        any_goals (first | (refine hR23 _ _ _ _ ?_; clear hR23) | (first | omega | (simp only [IntKind.wrap_i64] at *; omega) | (simp_all; done) | (simp_all; omega)))
        refine runD_cut 1 fun R24 hR24 => ?_
        try simp (maxSteps := 1000000) [List.take_succ_cons, List.take_zero, List.drop_succ_cons, List.drop_zero]
        first | refine ⟨_, fun hb => .inl ⟨high_ok i h1 h2, rfl⟩, ?_⟩ | refine ⟨_, .inl ⟨high_ok i h1 h2, rfl⟩, ?_⟩ | refine ⟨_, fun hb => .inl (high_ok i h1 h2), ?_⟩ | refine ⟨_, .inl (high_ok i h1 h2), ?_⟩ | refine ⟨_, by (intros; exact Or.inl (high_ok i h1 h2)), ?_⟩ | refine ⟨_, by (intros; exact Or.inl ⟨high_ok i h1 h2, rfl⟩), ?_⟩ | refine ⟨_, fun hb => .inl ⟨_, high_ok i h1 h2, by (try simp); exact ⟨rfl, rfl⟩⟩, ?_⟩
        repeat' (first | apply And.intro | intro _)
        any_goals (first | (refine hR24 _ _ _ _ ?_; clear hR24) | (first | omega | (simp only [IntKind.wrap_i64] at *; omega) | (simp_all; done) | (simp_all; omega)))
        try simp (maxSteps := 1000000) [List.take_succ_cons, List.take_zero, List.drop_succ_cons, List.drop_zero]
        repeat' (first | apply And.intro | intro _)
        any_goals (first | kernel_rfl | (refine hK20 _ ?_; clear hK20) | (first | omega | (simp only [IntKind.wrap_i64] at *; omega) | (simp_all; done) | (simp_all; omega)))
        refine swp_if fun C26 hC26 => ?_
        try simp (maxSteps := 1000000)
        refine hC26 _ (fun hc26 => ?_) (fun hc26 => ?_)
        · clear hC26
          try simp at hc26
          refine swp_seq fun K27 hK27 => ?_
          refine swp_region ty_ok ?_
          try simp (maxSteps := 1000000)
          repeat' (first | apply And.intro | intro _)
          any_goals (first | (refine hK27 _ ?_; clear hK27) | (first | omega | (simp only [IntKind.wrap_i64] at *; omega) | (simp_all; done) | (simp_all; omega)))
          refine swp_ret ?_
          simp [fnPost, Try.results20, resP, tupOf]
          obtain ⟨h1, h2⟩ := entE_arg (i := i) (vs := vs) hlen (j := j) (by omega) (by have h := hc26; simp [inR]; omega)
          exact ⟨h2, h1⟩
        · clear hC26
          try simp at hc26
          refine swp_skip ?_
          try simp only [thn, inBlk]
          refine hK19 _ ?_; clear hK19
          have hj : j < vs.length := (by omega)
          have hin : inR i (vs[j]?.getD 0) = true := (by have h := hc26; simp [inR]; omega)
          have hbd0 := entN_bd hB _ (inR_snoc hj hall hin)
          have hpw := bPow_le hB (j := (vs.take (j + 1)).length) (by simp; omega)
          unfold bPow at hpw
          have hsn := entN_take (i := i) hj
          obtain ⟨v, hv⟩ : ∃ v, vs[j]?.getD 0 = v := ⟨_, rfl⟩
          have hin2 := hin
          rw [hv] at hin2 hsn
          simp only [inR, decide_eq_true_eq] at hin2
          obtain ⟨w, hw⟩ : ∃ w : Nat, (w : Int) = v - bLow i := ⟨(v - bLow i).toNat, by omega⟩
          have hw2 : (v - bLow i).toNat = w := (by omega)
          rw [hw2] at hsn
          obtain ⟨q, hq⟩ : ∃ q, entN i (vs.take j) * bWide i = q := ⟨_, rfl⟩
          rw [hq] at hsn
          have hmul : IntKind.i64.wrap ((entN i (vs.take j) : Nat) * (bWide i : Nat) : Int) = (q : Nat) := by rw [w64 (by rw [← Int.natCast_mul, hq]; omega), ← Int.natCast_mul, hq]
          have hadd : IntKind.i64.wrap ((q : Nat) + vs[j]?.getD 0 : Int) = (q : Nat) + v := by rw [hv, w64 (by omega)]
          have hsub : IntKind.i64.wrap ((q : Nat) + v - bLow i : Int) = (entN i (vs.take (j + 1)) : Nat) := by rw [w64 (by omega), hsn]; omega
          refine swp_draw ty_ok mixed (ms := [0, 0, 2, 0, 14, 30, 62, 127, 0, 0, 768, 1792, 4095, 0, 8222, 32767, 65535]) (by kernel_rfl) ?_
          refine runD_cut 2 fun R28 hR28 => ?_
          try simp (maxSteps := 1000000) [hs, hs2, hmul, hadd, hsub, List.take_succ_cons, List.take_zero, List.drop_succ_cons, List.drop_zero]
          repeat' (first | apply And.intro | intro _)
          any_goals (first | (refine hR28 _ _ _ _ ?_; clear hR28) | (first | omega | (simp only [IntKind.wrap_i64] at *; omega) | (simp_all; done) | (simp_all; omega)))
          refine runD_cut 1 fun R29 hR29 => ?_
          try simp (maxSteps := 1000000) [hs, hs2, hmul, hadd, hsub, List.take_succ_cons, List.take_zero, List.drop_succ_cons, List.drop_zero]
          refine .inl ⟨_, high_ok i h1 h2, ?_⟩
          try simp (maxSteps := 1000000) [hs, hs2, hmul, hadd, hsub]
          repeat' (first | apply And.intro | intro _)
          any_goals (first | (refine hR29 _ _ _ _ ?_; clear hR29) | (first | omega | (simp only [IntKind.wrap_i64] at *; omega) | (simp_all; done) | (simp_all; omega)))
          refine runD_cut 1 fun R30 hR30 => ?_
          try simp (maxSteps := 1000000) [hs, hs2, hmul, hadd, hsub, List.take_succ_cons, List.take_zero, List.drop_succ_cons, List.drop_zero]
          repeat' (first | apply And.intro | intro _)
          any_goals (first | (refine hR30 _ _ _ _ ?_; clear hR30) | (first | omega | (simp only [IntKind.wrap_i64] at *; omega) | (simp_all; done) | (simp_all; omega)))
          refine runD_cut 1 fun R31 hR31 => ?_
          try simp (maxSteps := 1000000) [hs, hs2, hmul, hadd, hsub, List.take_succ_cons, List.take_zero, List.drop_succ_cons, List.drop_zero]
          refine .inl ⟨_, low_ok i h1 h2, ?_⟩
          try simp (maxSteps := 1000000) [hs, hs2, hmul, hadd, hsub]
          repeat' (first | apply And.intro | intro _)
          any_goals (first | (refine hR31 _ _ _ _ ?_; clear hR31) | (first | omega | (simp only [IntKind.wrap_i64] at *; omega) | (simp_all; done) | (simp_all; omega)))
          refine runD_cut 9 fun R32 hR32 => ?_
          try simp (maxSteps := 1000000) [hs, hs2, hmul, hadd, hsub, List.take_succ_cons, List.take_zero, List.drop_succ_cons, List.drop_zero]
          repeat' (first | apply And.intro | intro _)
          any_goals (first | (refine hR32 _ _ _ _ ?_; clear hR32) | (first | omega | (simp only [IntKind.wrap_i64] at *; omega) | (simp_all; done) | (simp_all; omega)))
          refine runD_cut 1 fun R33 hR33 => ?_
          try simp (maxSteps := 1000000) [hs, hs2, hmul, hadd, hsub, List.take_succ_cons, List.take_zero, List.drop_succ_cons, List.drop_zero]
          refine .inl ⟨_, low_ok i h1 h2, ?_⟩
          try simp (maxSteps := 1000000) [hs, hs2, hmul, hadd, hsub]
          repeat' (first | apply And.intro | intro _)
          any_goals (first | (refine hR33 _ _ _ _ ?_; clear hR33) | (first | omega | (simp only [IntKind.wrap_i64] at *; omega) | (simp_all; done) | (simp_all; omega)))
          try simp (maxSteps := 1000000) [hs, hs2, hmul, hadd, hsub, List.take_succ_cons, List.take_zero, List.drop_succ_cons, List.drop_zero]
          repeat' (first | apply And.intro | intro _)
          any_goals (first | kernel_rfl | (refine hK18 _ ?_; clear hK18) | (first | omega | (simp only [IntKind.wrap_i64] at *; omega) | (simp_all; done) | (simp_all; omega)))
          refine swp_region ty_ok ?_
          try simp (maxSteps := 1000000)
          repeat' apply And.intro
          any_goals (try omega)
          refine hL14 _ ⟨[(0, .int .i64 (i : Nat)), (1, .ro (.ints .i64 vs)), (6, .int .i64 (entN i (vs.take (j + 1)) : Nat)), (7, .int .i64 ((j + 1) : Nat))], [], 0⟩ _ ?_ ⟨(j + 1), by omega, by exact inR_snoc hj hall hin, rfl, rfl⟩ ⟨by simp [getT, PV.lo, lo1, hjw], by simp [getH, Blk.lo, Cells.lo, lo1], rfl, by omega⟩
          omega
      · clear hC17
        try simp at hc17
        refine swp_exit ?_
        simp [thn, inBlk]
        refine hK12 _ ?_; clear hK12
        refine swp_seq fun K35 hK35 => ?_
        refine swp_region ty_ok ?_
        try simp (maxSteps := 1000000)
        repeat' (first | apply And.intro | intro _)
        any_goals (first | (refine hK35 _ ?_; clear hK35) | (first | omega | (simp only [IntKind.wrap_i64] at *; omega) | (simp_all; done) | (simp_all; omega)))
        refine swp_ret ?_
        simp [fnPost, Try.results20, resP, tupOf]
        have hj : j = vs.length := (by omega)
        subst hj
        rw [List.take_length] at *
        obtain ⟨h1, h2⟩ := entE_fin hlen hall
        exact ⟨h2, h1⟩

theorem rsame8_ok (id p : Int) (es rs : List Int) (id2 p2 : Int) (es2 rs2 : List Int) (he : es.length ≤ 140737488355328) (hr : rs.length ≤ 140737488355328) : PCall Try.prog 21 [.agg [.int .i64 id, .int .i64 p, .ro (.ints .i64 es), .ro (.ints .i64 rs)], .agg [.int .i64 id2, .int .i64 p2, .ro (.ints .i64 es2), .ro (.ints .i64 rs2)]] (.bool (decide (id = id2 ∧ p = p2 ∧ es = es2 ∧ rs = rs2))) := by
  refine pcall_body ty_ok Try.func21 rfl (by rfl) (by simp) ?_
  rw [Try.ntmps21]
  refine swp_seq fun K1 hK1 => ?_
  refine swp_region ty_ok ?_
  try simp (maxSteps := 1000000)
  repeat' (first | apply And.intro | intro _)
  any_goals (first | (refine hK1 _ ?_; clear hK1) | (first | omega | (simp only [IntKind.wrap_i64] at *; omega) | (simp_all; done) | (simp_all; omega)))
  refine swp_seq fun K2 hK2 => ?_
  refine swp_region ty_ok ?_
  refine runs_cut 8 fun R3 hR3 => ?_
  try simp (maxSteps := 1000000) [List.take_succ_cons, List.take_zero, List.drop_succ_cons, List.drop_zero]
  repeat' (first | apply And.intro | intro _)
  any_goals (first | (refine hR3 _ ?_; clear hR3) | (first | omega | (simp only [IntKind.wrap_i64] at *; omega) | (simp_all; done) | (simp_all; omega)))
  refine runs_cut 9 fun R4 hR4 => ?_
  try simp (maxSteps := 1000000) [List.take_succ_cons, List.take_zero, List.drop_succ_cons, List.drop_zero]
  repeat' (first | apply And.intro | intro _)
  any_goals (first | (refine hR4 _ ?_; clear hR4) | (first | omega | (simp only [IntKind.wrap_i64] at *; omega) | (simp_all; done) | (simp_all; omega)))
  refine runs_cut 1 fun R5 hR5 => ?_
  try simp (maxSteps := 1000000) [List.take_succ_cons, List.take_zero, List.drop_succ_cons, List.drop_zero]
  first | refine .inl ⟨_, fun hb => .inl ⟨reedpiperef06_Ints_ok es es2 he, rfl⟩, ?_⟩ | refine .inl ⟨_, .inl ⟨reedpiperef06_Ints_ok es es2 he, rfl⟩, ?_⟩ | refine .inl ⟨_, fun hb => .inl (reedpiperef06_Ints_ok es es2 he), ?_⟩ | refine .inl ⟨_, .inl (reedpiperef06_Ints_ok es es2 he), ?_⟩ | refine .inl ⟨_, by (intros; exact Or.inl (reedpiperef06_Ints_ok es es2 he)), ?_⟩ | refine .inl ⟨_, by (intros; exact Or.inl ⟨reedpiperef06_Ints_ok es es2 he, rfl⟩), ?_⟩ | refine .inl ⟨_, fun hb => .inl ⟨_, reedpiperef06_Ints_ok es es2 he, by (try simp); exact ⟨rfl, rfl⟩⟩, ?_⟩
  repeat' (first | apply And.intro | intro _)
  any_goals (first | (refine hR5 _ ?_; clear hR5) | (first | omega | (simp only [IntKind.wrap_i64] at *; omega) | (simp_all; done) | (simp_all; omega)))
  refine runs_cut 6 fun R6 hR6 => ?_
  try simp (maxSteps := 1000000) [List.take_succ_cons, List.take_zero, List.drop_succ_cons, List.drop_zero]
  repeat' (first | apply And.intro | intro _)
  any_goals (first | (refine hR6 _ ?_; clear hR6) | (first | omega | (simp only [IntKind.wrap_i64] at *; omega) | (simp_all; done) | (simp_all; omega)))
  refine runs_cut 1 fun R7 hR7 => ?_
  try simp (maxSteps := 1000000) [List.take_succ_cons, List.take_zero, List.drop_succ_cons, List.drop_zero]
  first | refine .inl ⟨_, fun hb => .inl ⟨reedpiperef06_Ints_ok rs rs2 hr, rfl⟩, ?_⟩ | refine .inl ⟨_, .inl ⟨reedpiperef06_Ints_ok rs rs2 hr, rfl⟩, ?_⟩ | refine .inl ⟨_, fun hb => .inl (reedpiperef06_Ints_ok rs rs2 hr), ?_⟩ | refine .inl ⟨_, .inl (reedpiperef06_Ints_ok rs rs2 hr), ?_⟩ | refine .inl ⟨_, by (intros; exact Or.inl (reedpiperef06_Ints_ok rs rs2 hr)), ?_⟩ | refine .inl ⟨_, by (intros; exact Or.inl ⟨reedpiperef06_Ints_ok rs rs2 hr, rfl⟩), ?_⟩ | refine .inl ⟨_, fun hb => .inl ⟨_, reedpiperef06_Ints_ok rs rs2 hr, by (try simp); exact ⟨rfl, rfl⟩⟩, ?_⟩
  repeat' (first | apply And.intro | intro _)
  any_goals (first | (refine hR7 _ ?_; clear hR7) | (first | omega | (simp only [IntKind.wrap_i64] at *; omega) | (simp_all; done) | (simp_all; omega)))
  try simp (maxSteps := 1000000) [List.take_succ_cons, List.take_zero, List.drop_succ_cons, List.drop_zero]
  repeat' (first | apply And.intro | intro _)
  any_goals (first | (refine hK2 _ ?_; clear hK2) | (first | omega | (simp only [IntKind.wrap_i64] at *; omega) | (simp_all; done) | (simp_all; omega)))
  refine swp_ret ?_
  simp [fnPost, Try.results21, resP, tupOf]
  simp only [Bool.and_assoc]

end Go.Proofs.Ytjkpbhjppjamnaa

