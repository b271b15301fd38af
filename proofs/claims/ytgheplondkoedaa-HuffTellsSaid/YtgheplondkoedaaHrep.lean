import Derived.Test.YtgheplondkoedaaWf
import Derived.Test.YtgheplondkoedaaTyh
import Derived.Test.YtgheplondkoedaaBkq
import Derived.Test.YtgheplondkoedaaHsrt
import Derived.Test.YtgheplondkoedaaHbk
import Derived.Test.YtgheplondkoedaaHbk2
import Derived.Test.YtgheplondkoedaaHbk3
import Derived.Test.YtgheplondkoedaaHbits
import Derived.Test.YtgheplondkoedaaHrd
import Derived.Test.YtgheplondkoedaaHrdq
import Derived.Test.YtgheplondkoedaaHbits2
import Derived.Test.YtgheplondkoedaaHbk4
import Derived.Test.YtgheplondkoedaaHbk5
import Derived.Test.YtgheplondkoedaaHbk6
import Derived.Test.YtgheplondkoedaaHbk8
import Derived.Test.YtgheplondkoedaaHbk9
import Derived.Test.YtgheplondkoedaaHgrow
namespace Go.Proofs.Ytgheplondkoedaa
set_option linter.unusedVariables false
set_option linter.unusedSimpArgs false
set_option maxRecDepth 10000
open Go Go.Pv

open Go.RowKit
theorem andF {m : Nat} (h : m ≤ 8) : m % 18446744073709551616 &&& 4294967295 = m := by
 have : ∀ n : Fin 9, n.val % 18446744073709551616 &&& 4294967295 = n.val := by decide
 exact this ⟨m, by omega⟩
theorem rep_copy {m j k : Nat} (h : j ≤ m) (hk : min (m - j) j = k) : (List.replicate j 1 : List Int) ++ (List.replicate k 1 ++ List.drop (j + k) (List.replicate j 1 ++ List.replicate (m - j) 0)) = List.replicate (j + k) 1 ++ List.replicate (m - (j + k)) 0 := by
 rw [List.drop_append, List.drop_replicate, List.drop_replicate, List.length_replicate, show j - (j + k) = 0 by omega, show j + k - j = k by omega, ← List.append_assoc, List.replicate_append_replicate, show m - j - k = m - (j + k) by omega]
 rfl
theorem rep_init {m j : Nat} (h : min m 1 = j) : List.take m [(1 : Int)] = List.replicate j 1 := by
 rcases Nat.eq_zero_or_pos m with h0 | h0
 ·subst h0
  simp at h
  subst h
  rfl
 ·rw [List.take_of_length_le (by simp; omega), show j = 1 by omega]
  rfl

attribute [local simp] runs gd step1 need evu un opnds opv ev cst cst1 cstL getT getH putT onL nxt argT cellsOf PV.one thn inBlk jmp fldP ldP ldC live Cells.len Cells.get Cells.w sug ldv bin eqF eq1 ops2 sh2 binv Tk.agg stC apC rdS apS cpC cpS mvL zp argsP idx fillP toInts chunks mkC ixS ixA oidx slP sl0 slA optL List.append mxF bltn frzA frz frzL frz1 pur1 Cells.pur PV.scal scal1 runD rdO PV.ids id1 zids ety Eff.on cnd minb and1b ifmax ifmin mxv sugI strv w0 w1 w2 wm1
theorem mul64_ok (m : Nat) (h : m ≤ 8) : PCall Try.prog 113 [.int .u64 1, .int .u64 (m : Nat)] (.tup [.int .u64 0, .int .u64 (m : Nat)]) := by
 refine pcall_body ty_ok Try.func113 rfl (by rfl) (by simp) ?_
 rw [Try.ntmps113]
 refine swp_seq fun K1 hK1 => ?_
 refine swp_region ty_ok ?_
 try simp (maxSteps := 1000000) [IntKind.bits]
 repeat' (first | apply And.intro | intro _)
 any_goals (first | (refine hK1 _ ?_; clear hK1) | (first | omega | (simp only [IntKind.wrap_i64] at *; omega) | (simp_all; done) | (simp_all; omega)))
 refine swp_seq fun K2 hK2 => ?_
 refine swp_region ty_ok ?_
 try simp (maxSteps := 1000000) [IntKind.bits]
 repeat' (first | apply And.intro | intro _)
 any_goals (first | (refine hK2 _ ?_; clear hK2) | (first | omega | (simp only [IntKind.wrap_i64] at *; omega) | (simp_all; done) | (simp_all; omega)))
 refine swp_seq fun K3 hK3 => ?_
 refine swp_region ty_ok ?_
 try simp (maxSteps := 1000000) [IntKind.bits]
 repeat' (first | apply And.intro | intro _)
 any_goals (first | (refine hK3 _ ?_; clear hK3) | (first | omega | (simp only [IntKind.wrap_i64] at *; omega) | (simp_all; done) | (simp_all; omega)))
 refine swp_seq fun K4 hK4 => ?_
 refine swp_region ty_ok ?_
 try simp (maxSteps := 1000000) [IntKind.bits]
 repeat' (first | apply And.intro | intro _)
 any_goals (first | (refine hK4 _ ?_; clear hK4) | (first | omega | (simp only [IntKind.wrap_i64] at *; omega) | (simp_all; done) | (simp_all; omega)))
 refine swp_seq fun K5 hK5 => ?_
 refine swp_region ty_ok ?_
 try simp (maxSteps := 1000000) [IntKind.bits]
 repeat' (first | apply And.intro | intro _)
 any_goals (first | (refine hK5 _ ?_; clear hK5) | (first | omega | (simp only [IntKind.wrap_i64] at *; omega) | (simp_all; done) | (simp_all; omega)))
 refine swp_seq fun K6 hK6 => ?_
 refine swp_region ty_ok ?_
 try simp (maxSteps := 1000000) [IntKind.bits]
 repeat' (first | apply And.intro | intro _)
 any_goals (first | (refine hK6 _ ?_; clear hK6) | (first | omega | (simp only [IntKind.wrap_i64] at *; omega) | (simp_all; done) | (simp_all; omega)))
 refine swp_seq fun K7 hK7 => ?_
 refine swp_region ty_ok ?_
 try simp (maxSteps := 1000000) [IntKind.bits]
 repeat' (first | apply And.intro | intro _)
 any_goals (first | (refine hK7 _ ?_; clear hK7) | (first | omega | (simp only [IntKind.wrap_i64] at *; omega) | (simp_all; done) | (simp_all; omega)))
 refine swp_seq fun K8 hK8 => ?_
 refine swp_region ty_ok ?_
 try simp (maxSteps := 1000000) [IntKind.bits]
 repeat' (first | apply And.intro | intro _)
 any_goals (first | (refine hK8 _ ?_; clear hK8) | (first | omega | (simp only [IntKind.wrap_i64] at *; omega) | (simp_all; done) | (simp_all; omega)))
 refine swp_seq fun K9 hK9 => ?_
 refine swp_region ty_ok ?_
 try simp (maxSteps := 1000000) [IntKind.bits]
 repeat' (first | apply And.intro | intro _)
 any_goals (first | (refine hK9 _ ?_; clear hK9) | (first | omega | (simp only [IntKind.wrap_i64] at *; omega) | (simp_all; done) | (simp_all; omega)))
 refine swp_seq fun K10 hK10 => ?_
 refine swp_region ty_ok ?_
 try simp (maxSteps := 1000000) [IntKind.bits]
 repeat' (first | apply And.intro | intro _)
 any_goals (first | (refine hK10 _ ?_; clear hK10) | (first | omega | (simp only [IntKind.wrap_i64] at *; omega) | (simp_all; done) | (simp_all; omega)))
 refine swp_seq fun K11 hK11 => ?_
 refine swp_region ty_ok ?_
 try simp (maxSteps := 1000000) [IntKind.bits]
 repeat' (first | apply And.intro | intro _)
 any_goals (first | (refine hK11 _ ?_; clear hK11) | (first | omega | (simp only [IntKind.wrap_i64] at *; omega) | (simp_all; done) | (simp_all; omega)))
 refine swp_seq fun K12 hK12 => ?_
 refine swp_region ty_ok ?_
 try simp (maxSteps := 1000000) [IntKind.bits]
 repeat' (first | apply And.intro | intro _)
 any_goals (first | (refine hK12 _ ?_; clear hK12) | (first | omega | (simp only [IntKind.wrap_i64] at *; omega) | (simp_all; done) | (simp_all; omega)))
 refine swp_ret ?_
 simp [fnPost, Try.results113, resP, tupOf]
 have h9 : m = 0 ∨ m = 1 ∨ m = 2 ∨ m = 3 ∨ m = 4 ∨ m = 5 ∨ m = 6 ∨ m = 7 ∨ m = 8 := (by omega)
 rcases h9 with rfl | rfl | rfl | rfl | rfl | rfl | rfl | rfl | rfl <;> (first | rfl | decide | exact ⟨rfl, rfl⟩)

theorem mul_ok (m : Nat) (h : m ≤ 8) : PCall Try.prog 86 [.int .u64 1, .int .u64 (m : Nat)] (.tup [.int .u64 0, .int .u64 (m : Nat)]) := by
 refine pcall_body ty_ok Try.func86 rfl (by rfl) (by simp) ?_
 rw [Try.ntmps86]
 refine swp_seq fun K1 hK1 => ?_
 refine swp_region ty_ok ?_
 try simp (maxSteps := 1000000)
 repeat' (first | apply And.intro | intro _)
 any_goals (first | (refine hK1 _ ?_; clear hK1) | (first | omega | (simp only [IntKind.wrap_i64] at *; omega) | (simp_all; done) | (simp_all; omega)))
 refine swp_seq fun K2 hK2 => ?_
 refine swp_if fun C3 hC3 => ?_
 try simp (maxSteps := 1000000)
 refine hC3 _ (fun hc3 => ?_) (fun hc3 => ?_)
 ·exact absurd hc3 (by simp)
 ·clear hC3
  try simp at hc3
  refine swp_skip ?_
  try simp only [thn, inBlk]
  refine hK2 _ ?_; clear hK2
  refine swp_seq fun K4 hK4 => ?_
  refine swp_region ty_ok ?_
  refine runs_cut 2 fun R5 hR5 => ?_
  try simp (maxSteps := 1000000) [List.take_succ_cons, List.take_zero, List.drop_succ_cons, List.drop_zero]
  repeat' (first | apply And.intro | intro _)
  any_goals (first | (refine hR5 _ ?_; clear hR5) | (first | omega | (simp only [IntKind.wrap_i64] at *; omega) | (simp_all; done) | (simp_all; omega)))
  refine runs_cut 1 fun R6 hR6 => ?_
  try simp (maxSteps := 1000000) [List.take_succ_cons, List.take_zero, List.drop_succ_cons, List.drop_zero]
  refine .inl ⟨_, mul64_ok m h, ?_⟩
  try simp (maxSteps := 1000000)
  repeat' (first | apply And.intro | intro _)
  any_goals (first | (refine hR6 _ ?_; clear hR6) | (first | omega | (simp only [IntKind.wrap_i64] at *; omega) | (simp_all; done) | (simp_all; omega)))
  try simp (maxSteps := 1000000) [List.take_succ_cons, List.take_zero, List.drop_succ_cons, List.drop_zero]
  repeat' (first | apply And.intro | intro _)
  any_goals (first | (refine hK4 _ ?_; clear hK4) | (first | omega | (simp only [IntKind.wrap_i64] at *; omega) | (simp_all; done) | (simp_all; omega)))
  refine swp_seq fun K7 hK7 => ?_
  refine swp_region ty_ok ?_
  try simp (maxSteps := 1000000)
  repeat' (first | apply And.intro | intro _)
  any_goals (first | (refine hK7 _ ?_; clear hK7) | (first | omega | (simp only [IntKind.wrap_i64] at *; omega) | (simp_all; done) | (simp_all; omega)))
  refine swp_ret ?_
  simp [fnPost, Try.results86, resP, tupOf]

set_option maxHeartbeats 2000000 in
theorem repeat_ok (m : Nat) (h : m ≤ 8) : PCall Try.prog 49 [.ro (.ints .u8 [1]), .int .i64 (m : Nat)] (.ro (.ints .u8 (List.replicate m 1))) := by
 have ha := andF h
 have hw : IntKind.u64.wrap (m : Int) = m := by show (m : Int) % 18446744073709551616 = _; omega
 have hw0 : IntKind.u64.wrap 0 = 0 := rfl
 have hw1 : IntKind.u64.wrap 1 = 1 := rfl
 have hd : (m : Int).fdiv 4294967296 = 0 := by rw [Int.fdiv_eq_ediv_of_nonneg _ (by decide)]; omega
 have hd1 : (1 : Int).fdiv 4294967296 = 0 := rfl
 have hi : IntKind.i64.wrap (m : Int) = m := w64 (by omega)
 refine pcall_body ty_ok Try.func49 rfl (by rfl) (by simp) ?_
 rw [Try.ntmps49]
 refine swp_seq fun K1 hK1 => ?_
 refine swp_region ty_ok ?_
 try simp (maxSteps := 1000000) [hw, hw0, hw1, hi]
 repeat' (first | apply And.intro | intro _)
 any_goals (first | (refine hK1 _ ?_; clear hK1) | (first | omega | (simp only [IntKind.wrap_i64] at *; omega) | (simp_all; done) | (simp_all; omega)))
 refine swp_seq fun K2 hK2 => ?_
 refine swp_seq fun K3 hK3 => ?_
 refine swp_region ty_ok ?_
 try simp (maxSteps := 1000000) [hw, hw0, hw1, hi]
 repeat' (first | apply And.intro | intro _)
 any_goals (first | (refine hK3 _ ?_; clear hK3) | (first | omega | (simp only [IntKind.wrap_i64] at *; omega) | (simp_all; done) | (simp_all; omega)))
 refine swp_if fun C4 hC4 => ?_
 try simp (maxSteps := 1000000) [hw, hw0, hw1, hi]
 refine hC4 _ (fun hc4 => ?_) (fun hc4 => ?_)
 ·exact absurd hc4 (by simp)
 ·clear hC4
  try simp at hc4
  refine swp_skip ?_
  try simp only [thn, inBlk]
  refine hK2 _ ?_; clear hK2
  refine swp_seq fun K5 hK5 => ?_
  refine swp_region ty_ok ?_
  refine runs_cut 5 fun R6 hR6 => ?_
  try simp (maxSteps := 1000000) [hw, hw0, hw1, hi, List.take_succ_cons, List.take_zero, List.drop_succ_cons, List.drop_zero]
  repeat' (first | apply And.intro | intro _)
  any_goals (first | (refine hR6 _ ?_; clear hR6) | (first | omega | (simp only [IntKind.wrap_i64] at *; omega) | (simp_all; done) | (simp_all; omega)))
  refine runs_cut 1 fun R7 hR7 => ?_
  try simp (maxSteps := 1000000) [hw, hw0, hw1, hi, List.take_succ_cons, List.take_zero, List.drop_succ_cons, List.drop_zero]
  refine .inl ⟨_, mul_ok m h, ?_⟩
  try simp (maxSteps := 1000000) [hw, hw0, hw1, hi]
  repeat' (first | apply And.intro | intro _)
  any_goals (first | (refine hR7 _ ?_; clear hR7) | (first | omega | (simp only [IntKind.wrap_i64] at *; omega) | (simp_all; done) | (simp_all; omega)))
  try simp (maxSteps := 1000000) [hw, hw0, hw1, hi, List.take_succ_cons, List.take_zero, List.drop_succ_cons, List.drop_zero]
  repeat' (first | apply And.intro | intro _)
  any_goals (first | (refine hK5 _ ?_; clear hK5) | (first | omega | (simp only [IntKind.wrap_i64] at *; omega) | (simp_all; done) | (simp_all; omega)))
  refine swp_seq fun K8 hK8 => ?_
  refine swp_seq fun K9 hK9 => ?_
  refine swp_region ty_ok ?_
  try simp (maxSteps := 1000000) [hw, hw0, hw1, hi]
  repeat' (first | apply And.intro | intro _)
  any_goals (first | (refine hK9 _ ?_; clear hK9) | (first | omega | (simp only [IntKind.wrap_i64] at *; omega) | (simp_all; done) | (simp_all; omega)))
  refine swp_if fun C10 hC10 => ?_
  try simp (maxSteps := 1000000) [hw, hw0, hw1, hi]
  refine hC10 _ (fun hc10 => ?_) (fun hc10 => ?_)
  ·exfalso
   have h9 := hc10
   simp at h9
   omega
  ·clear hC10
   try simp at hc10
   refine swp_skip ?_
   try simp only [thn, inBlk]
   refine hK8 _ ?_; clear hK8
   refine swp_seq fun K11 hK11 => ?_
   refine swp_region ty_ok ?_
   refine runs_cut 2 fun R12 hR12 => ?_
   try simp (maxSteps := 1000000) [hw, hw0, hw1, hi, List.take_succ_cons, List.take_zero, List.drop_succ_cons, List.drop_zero]
   repeat' (first | apply And.intro | intro _)
   any_goals (first | (refine hR12 _ ?_; clear hR12) | (first | omega | (simp only [IntKind.wrap_i64] at *; omega) | (simp_all; done) | (simp_all; omega)))
   refine runs_cut 1 fun R13 hR13 => ?_
   try simp (maxSteps := 1000000) [hw, hw0, hw1, hi, List.take_succ_cons, List.take_zero, List.drop_succ_cons, List.drop_zero]
   repeat' (first | apply And.intro | intro _)
   any_goals (first | (refine Or.inr (hR13 _ ?_); clear hR13) | (first | omega | (simp only [IntKind.wrap_i64] at *; omega) | (simp_all; done) | (simp_all; omega)))
   try simp (maxSteps := 1000000) [hw, hw0, hw1, hi, List.take_succ_cons, List.take_zero, List.drop_succ_cons, List.drop_zero]
   repeat' (first | apply And.intro | intro _)
   any_goals (first | (refine hK11 _ ?_; clear hK11) | (first | omega | (simp only [IntKind.wrap_i64] at *; omega) | (simp_all; done) | (simp_all; omega)))
   refine swp_seq fun K14 hK14 => ?_
   refine swp_region ty_ok ?_
   try simp (maxSteps := 1000000) [hw, hw0, hw1, hi]
   repeat' (first | apply And.intro | intro _)
   any_goals (first | (refine hK14 _ ?_; clear hK14) | (first | omega | (simp only [IntKind.wrap_i64] at *; omega) | (simp_all; done) | (simp_all; omega)))
   refine swp_seq fun K15 hK15 => ?_
   refine swp_block ?_
   obtain ⟨j0, hj0⟩ : ∃ j0, min m 1 = j0 := ⟨_, rfl⟩
   have htk := rep_init hj0
   refine swp_loop 1 (fun m_ s_ => ∃ (j : Nat), (j ≤ m) ∧ (1 ≤ j ∨ m = 0) ∧ s_ = ⟨[(0, .ro (.ints .u8 [1])), (7, .sl 0 0 m m), (8, .int .i64 (j : Nat))], [(0, some ⟨.ints .u8 (List.replicate j 1 ++ List.replicate (m - j) 0), false, 5⟩)], 1⟩ ∧ m_ = m - j) _ ⟨[(0, .ro (.ints .u8 [1])), (7, .sl 0 0 m m), (8, .int .i64 (j0 : Nat))], [(0, some ⟨.ints .u8 (List.replicate j0 1 ++ List.replicate (m - j0) 0), false, 5⟩)], 1⟩ ⟨by simp [getT, PV.lo, lo1, hj0], by simp [getH, Blk.lo, Cells.lo, lo1, hj0, htk], rfl, by omega⟩ ⟨(j0), by (first | omega | (simp only [IntKind.wrap_i64] at *; omega) | (simp_all; done) | (simp_all; omega)), by (first | omega | (simp only [IntKind.wrap_i64] at *; omega) | (simp_all; done) | (simp_all; omega)), rfl, rfl⟩ ?_
   rintro m_ s_ ⟨j, hL16_0, hL16_1, rfl, rfl⟩ KL16 hL16
   refine swp_seq fun K17 hK17 => ?_
   refine swp_seq fun K18 hK18 => ?_
   refine swp_region ty_ok ?_
   try simp (maxSteps := 1000000) [hw, hw0, hw1, hi]
   repeat' (first | apply And.intro | intro _)
   any_goals (first | (refine hK18 _ ?_; clear hK18) | (first | omega | (simp only [IntKind.wrap_i64] at *; omega) | (simp_all; done) | (simp_all; omega)))
   refine swp_if fun C19 hC19 => ?_
   try simp (maxSteps := 1000000) [hw, hw0, hw1, hi]
   refine hC19 _ (fun hc19 => ?_) (fun hc19 => ?_)
   ·clear hC19
    try simp at hc19
    refine swp_skip ?_
    try simp only [thn, inBlk]
    refine hK17 _ ?_; clear hK17
    refine swp_block ?_
    obtain ⟨k, hk⟩ : ∃ k, min (m - j) j = k := ⟨_, rfl⟩
    have hl1 : (List.take j (List.drop 0 (List.replicate j (1 : Int) ++ List.replicate (m - j) 0))).length = j := by simp; try omega
    have hl2 : List.take j (List.replicate j (1 : Int) ++ List.replicate (m - j) 0) = List.replicate j 1 := by rw [List.take_append_of_le_length (by simp)]; simp
    have hl3 : List.drop 0 (List.replicate j (1 : Int) ++ List.replicate (m - j) 0) = List.replicate j 1 ++ List.replicate (m - j) 0 := rfl
    have hcp := rep_copy (by omega : j ≤ m) hk
    have hjw : IntKind.i64.wrap ((j : Int) + (k : Int)) = (j : Int) + (k : Int) := w64 (by omega)
    refine swp_draw ty_ok mixed (ms := [0, 0, 0, 6, 0, 0, 48, 126, 255, 511]) (by kernel_rfl) ?_
    try simp (maxSteps := 1000000) [hw, hw0, hw1, hi, hl3, hl2, hk, hcp]
    repeat' apply And.intro
    any_goals (try (first | omega | rfl | kernel_rfl))
    refine hL16 _ ⟨[(0, .ro (.ints .u8 [1])), (7, .sl 0 0 m m), (8, .int .i64 ((j + k) : Nat))], [(0, some ⟨.ints .u8 (List.replicate (j + k) 1 ++ List.replicate (m - (j + k)) 0), false, 5⟩)], 1⟩ _ ?_ ⟨(j + k), by (first | omega | (simp only [IntKind.wrap_i64] at *; omega) | (simp_all; done) | (simp_all; omega)), by (first | omega | (simp only [IntKind.wrap_i64] at *; omega) | (simp_all; done) | (simp_all; omega)), rfl, rfl⟩ ⟨by simp [getT, PV.lo, lo1, hk, hjw], by simp [getH, Blk.lo, Cells.lo, lo1, hk, hcp], rfl, by omega⟩
    omega
   ·clear hC19
    try simp at hc19
    refine swp_exit ?_
    simp [thn, inBlk]
    refine hK15 _ ?_; clear hK15
    refine swp_seq fun K21 hK21 => ?_
    refine swp_region ty_ok ?_
    try simp (maxSteps := 1000000) [hw, hw0, hw1, hi]
    repeat' (first | apply And.intro | intro _)
    any_goals (first | (refine hK21 _ ?_; clear hK21) | (first | omega | (simp only [IntKind.wrap_i64] at *; omega) | (simp_all; done) | (simp_all; omega)))
    refine swp_ret ?_
    simp [fnPost, Try.results49, resP, tupOf]
    (have hjm : j = m := (by omega)); subst hjm; simp

end Go.Proofs.Ytgheplondkoedaa

