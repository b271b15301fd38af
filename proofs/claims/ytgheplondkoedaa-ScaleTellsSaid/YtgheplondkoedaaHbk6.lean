import Derived.Test.YtgheplondkoedaaWf
import Derived.Test.YtgheplondkoedaaTyh
import Derived.Test.YtgheplondkoedaaBkq
import Derived.Test.YtgheplondkoedaaHsrt
import Derived.Test.YtgheplondkoedaaHbk
import Derived.Test.YtgheplondkoedaaHbk2
import Derived.Test.YtgheplondkoedaaHbk3
import Derived.Test.YtgheplondkoedaaHbits
import Derived.Test.YtgheplondkoedaaHrd
import Derived.Test.YtgheplondkoedaaHrdq
import Derived.Test.YtgheplondkoedaaHbits2
import Derived.Test.YtgheplondkoedaaHbk4
import Derived.Test.YtgheplondkoedaaHbk5
namespace Go.Proofs.Ytgheplondkoedaa
set_option linter.unusedVariables false
set_option linter.unusedSimpArgs false
set_option maxRecDepth 10000
open Go Go.Pv

open Go.RowKit
theorem twoN_eq (p : Nat) : ((twoN p : Nat) : Int) = (2 : Int) ^ p := by unfold twoN; push_cast; rfl

attribute [local simp] runs gd step1 need evu un opnds opv ev cst cst1 cstL getT getH putT onL nxt argT cellsOf PV.one thn inBlk jmp fldP ldP ldC live Cells.len Cells.get Cells.w sug ldv bin eqF eq1 ops2 sh2 binv Tk.agg stC apC rdS apS cpC cpS mvL zp argsP idx fillP toInts chunks mkC ixS ixA oidx slP sl0 slA optL List.append mxF bltn frzA frz frzL frz1 pur1 Cells.pur PV.scal scal1 runD rdO PV.ids id1 zids ety Eff.on cnd minb and1b ifmax ifmin mxv sugI strv w0 w1 w2 wm1
theorem digits_w (n : Nat) (h1 : 1 ≤ n) (h2 : n ≤ 65535) (ih : 2 ≤ n → PCall Try.prog 119 [.int .i64 (n / 2 : Nat)] (.int .i64 (Lib.bitLen (n / 2) : Nat))) : PCall Try.prog 119 [.int .i64 (n : Nat)] (.int .i64 (Lib.bitLen n : Nat)) := by
 have hbh := Lib.bitLen_half n (by omega) (by omega)
 have hbl := Lib.bitLen_le n 16 (by omega) (by omega)
 obtain ⟨q, hq⟩ : ∃ q, n / 2 = q := ⟨_, rfl⟩
 rw [hq] at ih hbh
 have hwd : IntKind.i64.wrap ((n : Int) / 2) = (q : Nat) := by rw [w64 (by omega)]; omega
 have hwq : IntKind.i64.wrap (1 + ((Lib.bitLen q : Nat) : Int)) = (Lib.bitLen n : Nat) := by rw [w64 (by omega)]; omega
 refine pcall_body ty_ok Try.func119 rfl (by rfl) (by simp) ?_
 rw [Try.ntmps119]
 refine swp_seq fun K1 hK1 => ?_
 refine swp_region ty_ok ?_
 try simp (maxSteps := 1000000)
 repeat' (first | apply And.intro | intro _)
 any_goals (first | (refine hK1 _ ?_; clear hK1) | omega | (simp_all <;> omega))
 refine swp_seq fun K2 hK2 => ?_
 refine swp_seq fun K3 hK3 => ?_
 refine swp_region ty_ok ?_
 try simp (maxSteps := 1000000)
 repeat' (first | apply And.intro | intro _)
 any_goals (first | (refine hK3 _ ?_; clear hK3) | omega | (simp_all <;> omega))
 refine swp_if fun C4 hC4 => ?_
 try simp (maxSteps := 1000000)
 refine hC4 _ (fun hc4 => ?_) (fun hc4 => ?_)
 ·clear hC4
  try simp at hc4
  refine swp_seq fun K5 hK5 => ?_
  refine swp_region ty_ok ?_
  try simp (maxSteps := 1000000)
  repeat' (first | apply And.intro | intro _)
  any_goals (first | (refine hK5 _ ?_; clear hK5) | omega | (simp_all <;> omega))
  refine swp_ret ?_
  simp [fnPost, Try.results119, resP, tupOf]
  have : n = 1 := (by omega)
  subst this
  rfl
 ·clear hC4
  try simp at hc4
  refine swp_skip ?_
  try simp only [thn, inBlk]
  refine hK2 _ ?_; clear hK2
  refine swp_seq fun K6 hK6 => ?_
  refine swp_region ty_ok ?_
  refine runs_cut 2 fun R7 hR7 => ?_
  try simp (maxSteps := 1000000) [hwd, hwq, List.take_succ_cons, List.take_zero, List.drop_succ_cons, List.drop_zero]
  repeat' (first | apply And.intro | intro _)
  any_goals (first | (refine hR7 _ ?_; clear hR7) | omega | (simp_all <;> omega))
  refine runs_cut 1 fun R8 hR8 => ?_
  try simp (maxSteps := 1000000) [hwd, hwq, List.take_succ_cons, List.take_zero, List.drop_succ_cons, List.drop_zero]
  refine .inl ⟨_, ih (by omega), ?_⟩
  try simp (maxSteps := 1000000) [hwd, hwq]
  repeat' (first | apply And.intro | intro _)
  any_goals (first | (refine hR8 _ ?_; clear hR8) | omega | (simp_all <;> omega))
  try simp (maxSteps := 1000000) [hwd, hwq, List.take_succ_cons, List.take_zero, List.drop_succ_cons, List.drop_zero]
  repeat' (first | apply And.intro | intro _)
  any_goals (first | (refine hK6 _ ?_; clear hK6) | omega | (simp_all <;> omega))
  refine swp_ret ?_
  simp [fnPost, Try.results119, resP, tupOf]

theorem digits_ok : ∀ (n : Nat), 1 ≤ n → n ≤ 65535 → PCall Try.prog 119 [.int .i64 (n : Nat)] (.int .i64 (Lib.bitLen n : Nat)) := by
 intro n
 induction n using Nat.strongRecOn with
 | ind n ih => exact fun h1 h2 => digits_w n h1 h2 fun h => ih (n / 2) (by omega) (by omega) (by omega)

theorem rkbits_ok (p r : Nat) (hp : p ≤ 2) (hr : r < 289) : PCall Try.prog 97 [.int .i64 (r : Nat), .int .i64 (p : Nat)] (.ro (.ints .u8 (codeL p r))) := by
 have hf := codeF (p := p) (r := r) hp hr
 have hfm := hf.m
 have hfn := hf.n
 have hq0 : r / 2 ^ p ≤ r := Nat.div_le_self _ _
 have hq1 : r % 2 ^ p ≤ r := Nat.mod_le _ _
 have htd := tdiv_nat (a := r) (b := 2 ^ p) (r := r / 2 ^ p) rfl
 have htm := tmod_nat (a := r) (b := 2 ^ p) (r := r % 2 ^ p) rfl
 have htw : twoN p = 2 ^ p := rfl
 have htn : ¬ 2 ^ p = 0 := Nat.ne_of_gt (Nat.pow_pos (by omega))
 have hcn0 : cN p r = r / 2 ^ p + 1 := rfl
 have hcd : codeL p r = List.replicate (cM p r - 1) 0 ++ bitsOf (cN p r) (cM p r) ++ bitsOf (r % 2 ^ p) p := rfl
 obtain ⟨d, hd⟩ : ∃ d, r / 2 ^ p = d := ⟨_, rfl⟩
 obtain ⟨m, hm⟩ : ∃ m, r % 2 ^ p = m := ⟨_, rfl⟩
 obtain ⟨t, ht⟩ : ∃ t, 2 ^ p = t := ⟨_, rfl⟩
 rw [hd] at hq0 htd hcn0
 rw [hm] at hq1 htm hcd
 rw [ht] at htd htm htw htn
 have hwd : IntKind.i64.wrap (d : Int) = d := w64 (by omega)
 have hcn : IntKind.i64.wrap ((d : Nat) + 1 : Int) = (cN p r : Nat) := by rw [w64 (by omega)]; omega
 have hM : IntKind.i64.wrap (((cM p r : Nat) : Int) - 1) = ((cM p r - 1 : Nat) : Int) := by rw [w64 (by omega)]; omega
 have hbl := bitsOf_len (cN p r) (cM p r)
 have hbl2 := bitsOf_len m p
 refine pcall_body ty_ok Try.func97 rfl (by rfl) (by simp) ?_
 rw [Try.ntmps97]
 refine swp_seq fun K1 hK1 => ?_
 refine swp_region ty_ok ?_
 try simp (maxSteps := 1000000)
 repeat' (first | apply And.intro | intro _)
 any_goals (first | (refine hK1 _ ?_; clear hK1) | omega | (simp_all <;> omega))
 refine swp_seq fun K2 hK2 => ?_
 refine swp_region ty_ok ?_
 refine runs_cut 1 fun R3 hR3 => ?_
 try simp (maxSteps := 1000000) [htw, List.take_succ_cons, List.take_zero, List.drop_succ_cons, List.drop_zero]
 repeat' (first | apply And.intro | intro _)
 any_goals (first | (refine hR3 _ ?_; clear hR3) | omega | (simp_all <;> omega))
 refine runs_cut 1 fun R4 hR4 => ?_
 try simp (maxSteps := 1000000) [htw, List.take_succ_cons, List.take_zero, List.drop_succ_cons, List.drop_zero]
 refine .inl ⟨_, two_ok p (by omega), ?_⟩
 try simp (maxSteps := 1000000) [htw]
 repeat' (first | apply And.intro | intro _)
 any_goals (first | (refine hR4 _ ?_; clear hR4) | omega | (simp_all <;> omega))
 try simp (maxSteps := 1000000) [htw, List.take_succ_cons, List.take_zero, List.drop_succ_cons, List.drop_zero]
 repeat' (first | apply And.intro | intro _)
 any_goals (first | (refine hK2 _ ?_; clear hK2) | omega | (simp_all <;> omega))
 refine swp_seq fun K5 hK5 => ?_
 refine swp_region ty_ok ?_
 try simp (maxSteps := 1000000) [htd, hwd, hcn, htn]
 repeat' (first | apply And.intro | intro _)
 any_goals (first | (refine hK5 _ ?_; clear hK5) | omega | (simp_all <;> omega))
 refine swp_seq fun K6 hK6 => ?_
 refine swp_region ty_ok ?_
 refine runs_cut 1 fun R7 hR7 => ?_
 try simp (maxSteps := 1000000) [List.take_succ_cons, List.take_zero, List.drop_succ_cons, List.drop_zero]
 repeat' (first | apply And.intro | intro _)
 any_goals (first | (refine hR7 _ ?_; clear hR7) | omega | (simp_all <;> omega))
 refine runs_cut 1 fun R8 hR8 => ?_
 try simp (maxSteps := 1000000) [List.take_succ_cons, List.take_zero, List.drop_succ_cons, List.drop_zero]
 refine .inl ⟨_, (show PCall Try.prog 119 [.int .i64 (cN p r : Nat)] (.int .i64 (cM p r : Nat)) from digits_ok (cN p r) (by omega) (by omega)), ?_⟩
 try simp (maxSteps := 1000000)
 repeat' (first | apply And.intro | intro _)
 any_goals (first | (refine hR8 _ ?_; clear hR8) | omega | (simp_all <;> omega))
 try simp (maxSteps := 1000000) [List.take_succ_cons, List.take_zero, List.drop_succ_cons, List.drop_zero]
 repeat' (first | apply And.intro | intro _)
 any_goals (first | (refine hK6 _ ?_; clear hK6) | omega | (simp_all <;> omega))
 refine swp_seq fun K9 hK9 => ?_
 refine swp_region ty_ok ?_
 refine runs_cut 2 fun R10 hR10 => ?_
 try simp (maxSteps := 1000000) [hM, List.take_succ_cons, List.take_zero, List.drop_succ_cons, List.drop_zero]
 repeat' (first | apply And.intro | intro _)
 any_goals (first | (refine hR10 _ ?_; clear hR10) | omega | (simp_all <;> omega))
 refine runs_cut 1 fun R11 hR11 => ?_
 try simp (maxSteps := 1000000) [hM, List.take_succ_cons, List.take_zero, List.drop_succ_cons, List.drop_zero]
 repeat' (first | apply And.intro | intro _)
 any_goals (first | (refine Or.inr (hR11 _ ?_); clear hR11) | omega | (simp_all <;> omega))
 try simp (maxSteps := 1000000) [hM, List.take_succ_cons, List.take_zero, List.drop_succ_cons, List.drop_zero]
 repeat' (first | apply And.intro | intro _)
 any_goals (first | (refine hK9 _ ?_; clear hK9) | omega | (simp_all <;> omega))
 refine swp_seq fun K12 hK12 => ?_
 refine swp_region ty_ok ?_
 refine runs_cut 3 fun R13 hR13 => ?_
 try simp (maxSteps := 1000000) [List.take_succ_cons, List.take_zero, List.drop_succ_cons, List.drop_zero]
 repeat' (first | apply And.intro | intro _)
 any_goals (first | (refine hR13 _ ?_; clear hR13) | omega | (simp_all <;> omega))
 refine runs_cut 1 fun R14 hR14 => ?_
 try simp (maxSteps := 1000000) [List.take_succ_cons, List.take_zero, List.drop_succ_cons, List.drop_zero]
 refine .inl ⟨_, rbits_ok (cN p r) (cM p r) (by omega) (by omega), ?_⟩
 try simp (maxSteps := 1000000)
 repeat' (first | apply And.intro | intro _)
 any_goals (first | (refine hR14 _ ?_; clear hR14) | omega | (simp_all <;> omega))
 try simp (maxSteps := 1000000) [List.take_succ_cons, List.take_zero, List.drop_succ_cons, List.drop_zero]
 repeat' (first | apply And.intro | intro _)
 any_goals (first | (refine hK12 _ ?_; clear hK12) | omega | (simp_all <;> omega))
 refine swp_seq fun K15 hK15 => ?_
 refine swp_region ty_ok ?_
 refine runs_cut 5 fun R16 hR16 => ?_
 try simp (maxSteps := 1000000) [htm, htn, List.take_succ_cons, List.take_zero, List.drop_succ_cons, List.drop_zero]
 repeat' (first | apply And.intro | intro _)
 any_goals (first | (refine hR16 _ ?_; clear hR16) | omega | (simp_all <;> omega))
 refine runs_cut 1 fun R17 hR17 => ?_
 try simp (maxSteps := 1000000) [htm, htn, List.take_succ_cons, List.take_zero, List.drop_succ_cons, List.drop_zero]
 refine .inl ⟨_, rbits_ok m p (by omega) (by omega), ?_⟩
 try simp (maxSteps := 1000000) [htm, htn]
 repeat' (first | apply And.intro | intro _)
 any_goals (first | (refine hR17 _ ?_; clear hR17) | omega | (simp_all <;> omega))
 try simp (maxSteps := 1000000) [htm, htn, List.take_succ_cons, List.take_zero, List.drop_succ_cons, List.drop_zero]
 repeat' (first | apply And.intro | intro _)
 any_goals (first | (refine hK15 _ ?_; clear hK15) | omega | (simp_all <;> omega))
 refine swp_ret ?_
 simp [fnPost, Try.results97, resP, tupOf]
 refine ⟨by omega, ?_⟩
 rw [hcd, List.append_assoc]

theorem found_ok (i : Nat) (h1 : 1 ≤ i) (h2 : i ≤ 12) (b : List Int) (at_ : Int) (hm : b.length ≤ 140737488355328) (hp : ∀ k : Nat, 0 ≤ b[k]?.getD 0 ∧ b[k]?.getD 0 ≤ 255) (hat : -9223372036854775808 ≤ at_ ∧ at_ ≤ 9223372036854775807) : PCall Try.prog 65 [bookV i, .ro (.ints .u8 b), .int .i64 at_] (.tup [.int .i64 (fdN (bPlain i) (bE i) b at_), .int .i64 (fdP (bPlain i) (bE i) b at_), .int .i64 (fdE (bPlain i) (bMany i) b at_)]) := by
 have hE := bke h1 h2
 have hB := bk_ok h1 h2
 have hel := hE.elen
 have hplain := hB.plain
 have hmany := hB.many
 rw [← hel]
 refine pcall_body ty_ok Try.func65 rfl (by rfl) (by simp) ?_
 rw [Try.ntmps65]
 refine swp_seq fun K1 hK1 => ?_
 refine swp_region ty_ok ?_
 try simp (maxSteps := 1000000) [bookV]
 repeat' (first | apply And.intro | intro _)
 any_goals (first | (refine hK1 _ ?_; clear hK1) | omega | (simp_all <;> omega))
 refine swp_seq fun K2 hK2 => ?_
 refine swp_seq fun K3 hK3 => ?_
 refine swp_region ty_ok ?_
 try simp (maxSteps := 1000000) [bookV]
 repeat' (first | apply And.intro | intro _)
 any_goals (first | (refine hK3 _ ?_; clear hK3) | omega | (simp_all <;> omega))
 refine swp_if fun C4 hC4 => ?_
 try simp (maxSteps := 1000000) [bookV]
 refine hC4 _ (fun hc4 => ?_) (fun hc4 => ?_)
 ·clear hC4
  try simp at hc4
  refine swp_seq fun K5 hK5 => ?_
  refine swp_region ty_ok ?_
  try simp (maxSteps := 1000000) [bookV]
  repeat' (first | apply And.intro | intro _)
  any_goals (first | (refine hK5 _ ?_; clear hK5) | omega | (simp_all <;> omega))
  refine swp_ret ?_
  simp [fnPost, Try.results65, resP, tupOf]
  have hg : getE b at_ 1 = 2 := getE_arg (by have h := hc4; omega)
  have e0 : zE b at_ = 2 := by unfold zE; rw [zr_err (by omega) (by rw [hg]; omega)]; exact hg
  exact fd_err ((fd_z (by omega)).trans e0) (by omega)
 ·clear hC4
  try simp at hc4
  refine swp_skip ?_
  try simp only [thn, inBlk]
  refine hK2 _ ?_; clear hK2
  refine swp_seq fun K6 hK6 => ?_
  refine swp_region ty_ok ?_
  try simp (maxSteps := 1000000) [bookV]
  repeat' (first | apply And.intro | intro _)
  any_goals (first | (refine hK6 _ ?_; clear hK6) | omega | (simp_all <;> omega))
  refine swp_seq fun K7 hK7 => ?_
  refine swp_block ?_
  refine swp_loop 1 (fun m_ s_ => ∃ (z : Nat) (q : Int), (z ≤ 10) ∧ (-9223372036854775808 ≤ q ∧ q ≤ 9223372036854775807) ∧ (zr b (10 - z) z q = zr b 10 0 at_) ∧ s_ = ⟨[(3, .ptr 0 0 0 1), (1, .ro (.ints .u8 b)), (9, .int .i64 (z : Nat)), (2, .int .i64 q)], [(0, some ⟨.rows 4 [[.int .i64 (i : Nat), .int .i64 (bPlain i : Nat), .ro (.ints .i64 (bE i)), .ro (.ints .i64 (bR i))]], true, 25⟩)], 1⟩ ∧ m_ = 11 - z) _ ⟨[(3, .ptr 0 0 0 1), (1, .ro (.ints .u8 b)), (9, .int .i64 (0 : Nat)), (2, .int .i64 at_)], [(0, some ⟨.rows 4 [[.int .i64 (i : Nat), .int .i64 (bPlain i : Nat), .ro (.ints .i64 (bE i)), .ro (.ints .i64 (bR i))]], true, 25⟩)], 1⟩ ⟨by simp [getT, PV.lo, lo1], by simp [getH, Blk.lo, Cells.lo, lo1], rfl, by omega⟩ ⟨(0), (at_), by omega, by exact hat, by rfl, rfl, rfl⟩ ?_
  rintro m_ s_ ⟨z, q, hL8_0, hL8_1, hL8_2, rfl, rfl⟩ KL8 hL8
  have hzw := wnext (i := z) (by omega)
  have hq := (by assumption : -9223372036854775808 ≤ q ∧ q ≤ 9223372036854775807)
  have hI := (by assumption : zr b (10 - z) z q = zr b 10 0 at_)
  refine swp_block ?_
  refine swp_seq fun K9 hK9 => ?_
  refine swp_seq fun K10 hK10 => ?_
  refine swp_region ty_ok ?_
  try simp (maxSteps := 1000000) [bookV]
  repeat' (first | apply And.intro | intro _)
  any_goals (first | (refine hK10 _ ?_; clear hK10) | omega | (simp_all <;> omega))
  refine swp_if fun C11 hC11 => ?_
  try simp (maxSteps := 1000000) [bookV]
  refine hC11 _ (fun hc11 => ?_) (fun hc11 => ?_)
  ·clear hC11
   try simp at hc11
   refine swp_seq fun K12 hK12 => ?_
   refine swp_region ty_ok ?_
   try simp (maxSteps := 1000000) [bookV]
   repeat' (first | apply And.intro | intro _)
   any_goals (first | (refine hK12 _ ?_; clear hK12) | omega | (simp_all <;> omega))
   refine swp_ret ?_
   simp [fnPost, Try.results65, resP, tupOf]
   have e0 : zE b at_ = 8 := by unfold zE; rw [← hI, show 10 - z = 0 by omega]; rfl
   exact fd_err ((fd_z (by omega)).trans e0) (by omega)
  ·clear hC11
   try simp at hc11
   refine swp_skip ?_
   try simp only [thn, inBlk]
   refine hK9 _ ?_; clear hK9
   refine swp_seq fun K13 hK13 => ?_
   refine swp_region ty_ok ?_
   refine runs_cut 2 fun R14 hR14 => ?_
   try simp (maxSteps := 1000000) [bookV, List.take_succ_cons, List.take_zero, List.drop_succ_cons, List.drop_zero]
   repeat' (first | apply And.intro | intro _)
   any_goals (first | (refine hR14 _ ?_; clear hR14) | omega | (simp_all <;> omega))
   refine runs_cut 1 fun R15 hR15 => ?_
   try simp (maxSteps := 1000000) [bookV, List.take_succ_cons, List.take_zero, List.drop_succ_cons, List.drop_zero]
   refine .inl ⟨_, rget_ok b q 1 hm hp hq, ?_⟩
   try simp (maxSteps := 1000000) [bookV]
   repeat' (first | apply And.intro | intro _)
   any_goals (first | (refine hR15 _ ?_; clear hR15) | omega | (simp_all <;> omega))
   try simp (maxSteps := 1000000) [bookV, List.take_succ_cons, List.take_zero, List.drop_succ_cons, List.drop_zero]
   repeat' (first | apply And.intro | intro _)
   any_goals (first | (refine hK13 _ ?_; clear hK13) | omega | (simp_all <;> omega))
   refine swp_seq fun K16 hK16 => ?_
   refine swp_seq fun K17 hK17 => ?_
   refine swp_region ty_ok ?_
   try simp (maxSteps := 1000000) [bookV]
   repeat' (first | apply And.intro | intro _)
   any_goals (first | (refine hK17 _ ?_; clear hK17) | omega | (simp_all <;> omega))
   refine swp_if fun C18 hC18 => ?_
   try simp (maxSteps := 1000000) [bookV]
   refine hC18 _ (fun hc18 => ?_) (fun hc18 => ?_)
   ·clear hC18
    try simp at hc18
    refine swp_seq fun K19 hK19 => ?_
    refine swp_region ty_ok ?_
    try simp (maxSteps := 1000000) [bookV]
    repeat' (first | apply And.intro | intro _)
    any_goals (first | (refine hK19 _ ?_; clear hK19) | omega | (simp_all <;> omega))
    refine swp_ret ?_
    simp [fnPost, Try.results65, resP, tupOf]
    have e0 : zE b at_ = getE b q 1 := by unfold zE; rw [← hI, zr_err (by omega) hc18]
    exact fd_err ((fd_z (by rw [e0]; exact hc18)).trans e0) hc18
   ·clear hC18
    try simp at hc18
    refine swp_skip ?_
    try simp only [thn, inBlk]
    refine hK16 _ ?_; clear hK16
    refine swp_seq fun K20 hK20 => ?_
    have hg0 := hc18
    refine swp_region ty_ok ?_
    try simp (maxSteps := 1000000) [bookV]
    repeat' (first | apply And.intro | intro _)
    any_goals (first | (refine hK20 _ ?_; clear hK20) | omega | (simp_all <;> omega))
    refine swp_seq fun K21 hK21 => ?_
    refine swp_seq fun K22 hK22 => ?_
    refine swp_region ty_ok ?_
    try simp (maxSteps := 1000000) [bookV]
    repeat' (first | apply And.intro | intro _)
    any_goals (first | (refine hK22 _ ?_; clear hK22) | omega | (simp_all <;> omega))
    refine swp_if fun C23 hC23 => ?_
    try simp (maxSteps := 1000000) [bookV]
    refine hC23 _ (fun hc23 => ?_) (fun hc23 => ?_)
    ·clear hC23
     try simp at hc23
     refine swp_exit ?_
     simp [thn, inBlk]
     refine hK7 _ ?_; clear hK7
     refine swp_seq fun K24 hK24 => ?_
     obtain ⟨hzE, hzP, hzZ⟩ := zr_fin (hI.symm.trans (zr_one (by omega) hg0 (by have h := hc23; omega)))
     subst hzZ
     have hq1 : -9223372036854775808 ≤ zP b at_ ∧ zP b at_ ≤ 9223372036854775807 := (by have := getP_bd (b := b) (p := q) (size := 1) hm; omega)
     refine swp_region ty_ok ?_
     refine runs_cut 3 fun R25 hR25 => ?_
     try simp (maxSteps := 1000000) [bookV, ← hzP, List.take_succ_cons, List.take_zero, List.drop_succ_cons, List.drop_zero]
     repeat' (first | apply And.intro | intro _)
     any_goals (first | (refine hR25 _ ?_; clear hR25) | omega | (simp_all <;> omega))
     refine runs_cut 1 fun R26 hR26 => ?_
     try simp (maxSteps := 1000000) [bookV, ← hzP, List.take_succ_cons, List.take_zero, List.drop_succ_cons, List.drop_zero]
     refine .inl ⟨_, rget_ok b (zP b at_) (zZ b at_ : Nat) hm hp hq1, ?_⟩
     try simp (maxSteps := 1000000) [bookV, ← hzP]
     repeat' (first | apply And.intro | intro _)
     any_goals (first | (refine hR26 _ ?_; clear hR26) | omega | (simp_all <;> omega))
     try simp (maxSteps := 1000000) [bookV, ← hzP, List.take_succ_cons, List.take_zero, List.drop_succ_cons, List.drop_zero]
     repeat' (first | apply And.intro | intro _)
     any_goals (first | (refine hK24 _ ?_; clear hK24) | omega | (simp_all <;> omega))
     refine swp_seq fun K27 hK27 => ?_
     refine swp_seq fun K28 hK28 => ?_
     refine swp_region ty_ok ?_
     try simp (maxSteps := 1000000) [bookV]
     repeat' (first | apply And.intro | intro _)
     any_goals (first | (refine hK28 _ ?_; clear hK28) | omega | (simp_all <;> omega))
     refine swp_if fun C29 hC29 => ?_
     try simp (maxSteps := 1000000) [bookV]
     refine hC29 _ (fun hc29 => ?_) (fun hc29 => ?_)
     ·clear hC29
      try simp at hc29
      refine swp_seq fun K30 hK30 => ?_
      refine swp_region ty_ok ?_
      try simp (maxSteps := 1000000) [bookV]
      repeat' (first | apply And.intro | intro _)
      any_goals (first | (refine hK30 _ ?_; clear hK30) | omega | (simp_all <;> omega))
      refine swp_ret ?_
      simp [fnPost, Try.results65, resP, tupOf]
      exact fd_err (fd_h hzE hc29) hc29
     ·clear hC29
      try simp at hc29
      refine swp_skip ?_
      try simp only [thn, inBlk]
      refine hK27 _ ?_; clear hK27
      refine swp_seq fun K31 hK31 => ?_
      have hhE := hc29
      have hq2 : -9223372036854775808 ≤ hP b at_ ∧ hP b at_ ≤ 9223372036854775807 := (by have := getP_bd (b := b) (p := zP b at_) (size := (zZ b at_ : Nat)) hm; unfold hP; omega)
      refine swp_region ty_ok ?_
      refine runs_cut 4 fun R32 hR32 => ?_
      try simp (maxSteps := 1000000) [bookV, List.take_succ_cons, List.take_zero, List.drop_succ_cons, List.drop_zero]
      repeat' (first | apply And.intro | intro _)
      any_goals (first | (refine hR32 _ ?_; clear hR32) | omega | (simp_all <;> omega))
      refine runs_cut 1 fun R33 hR33 => ?_
      try simp (maxSteps := 1000000) [bookV, List.take_succ_cons, List.take_zero, List.drop_succ_cons, List.drop_zero]
      refine .inl ⟨_, rget_ok b (hP b at_) (bPlain i : Nat) hm hp hq2, ?_⟩
      try simp (maxSteps := 1000000) [bookV]
      repeat' (first | apply And.intro | intro _)
      any_goals (first | (refine hR33 _ ?_; clear hR33) | omega | (simp_all <;> omega))
      try simp (maxSteps := 1000000) [bookV, List.take_succ_cons, List.take_zero, List.drop_succ_cons, List.drop_zero]
      repeat' (first | apply And.intro | intro _)
      any_goals (first | (refine hK31 _ ?_; clear hK31) | omega | (simp_all <;> omega))
      refine swp_seq fun K34 hK34 => ?_
      refine swp_seq fun K35 hK35 => ?_
      refine swp_region ty_ok ?_
      try simp (maxSteps := 1000000) [bookV]
      repeat' (first | apply And.intro | intro _)
      any_goals (first | (refine hK35 _ ?_; clear hK35) | omega | (simp_all <;> omega))
      refine swp_if fun C36 hC36 => ?_
      try simp (maxSteps := 1000000) [bookV]
      refine hC36 _ (fun hc36 => ?_) (fun hc36 => ?_)
      ·clear hC36
       try simp at hc36
       refine swp_seq fun K37 hK37 => ?_
       refine swp_region ty_ok ?_
       try simp (maxSteps := 1000000) [bookV]
       repeat' (first | apply And.intro | intro _)
       any_goals (first | (refine hK37 _ ?_; clear hK37) | omega | (simp_all <;> omega))
       refine swp_ret ?_
       simp [fnPost, Try.results65, resP, tupOf]
       exact fd_err (fd_l hzE hhE hc36) hc36
      ·clear hC36
       try simp at hc36
       refine swp_skip ?_
       try simp only [thn, inBlk]
       refine hK34 _ ?_; clear hK34
       refine swp_seq fun K38 hK38 => ?_
       have hlE := hc36
       have hF := rkF (p := bPlain i) hp hplain hzE
       have f0 := hF.z
       have f2 := hF.a
       have f3 := hF.o
       have f5 := hF.u
       have f6 := hF.l
       have f7 := hF.r
       have f8 := twoN_eq (zZ b at_)
       have f9 := twoN_eq (bPlain i)
       refine swp_draw ty_ok mixed (ms := [0, 1, 0, 7, 15, 0, 32, 99, 255, 0, 1023, 2047]) (by kernel_rfl) ?_
       refine runD_cut 1 fun R39 hR39 => ?_
       try simp (maxSteps := 1000000) [bookV, f2, f3, f5, f6, f8, f9, List.take_succ_cons, List.take_zero, List.drop_succ_cons, List.drop_zero]
       repeat' (first | apply And.intro | intro _)
       any_goals (first | (refine hR39 _ _ _ _ ?_; clear hR39) | omega | (simp_all <;> omega))
       refine runD_cut 1 fun R40 hR40 => ?_
       try simp (maxSteps := 1000000) [bookV, f2, f3, f5, f6, f8, f9, List.take_succ_cons, List.take_zero, List.drop_succ_cons, List.drop_zero]
       refine .inl ⟨_, two_ok (zZ b at_) (by omega), ?_⟩
       try simp (maxSteps := 1000000) [bookV, f2, f3, f5, f6, f8, f9]
       repeat' (first | apply And.intro | intro _)
       any_goals (first | (refine hR40 _ _ _ _ ?_; clear hR40) | omega | (simp_all <;> omega))
       refine runD_cut 5 fun R41 hR41 => ?_
       try simp (maxSteps := 1000000) [bookV, f2, f3, f5, f6, f8, f9, List.take_succ_cons, List.take_zero, List.drop_succ_cons, List.drop_zero]
       repeat' (first | apply And.intro | intro _)
       any_goals (first | (refine hR41 _ _ _ _ ?_; clear hR41) | omega | (simp_all <;> omega))
       refine runD_cut 1 fun R42 hR42 => ?_
       try simp (maxSteps := 1000000) [bookV, f2, f3, f5, f6, f8, f9, List.take_succ_cons, List.take_zero, List.drop_succ_cons, List.drop_zero]
       refine .inl ⟨_, two_ok (bPlain i) (by omega), ?_⟩
       try simp (maxSteps := 1000000) [bookV, f2, f3, f5, f6, f8, f9]
       repeat' (first | apply And.intro | intro _)
       any_goals (first | (refine hR42 _ _ _ _ ?_; clear hR42) | omega | (simp_all <;> omega))
       try simp (maxSteps := 1000000) [bookV, f2, f3, f5, f6, f8, f9, List.take_succ_cons, List.take_zero, List.drop_succ_cons, List.drop_zero]
       repeat' (first | apply And.intro | intro _)
       any_goals (first | kernel_rfl | (refine hK38 _ ?_; clear hK38) | omega | (simp_all <;> omega))
       refine swp_seq fun K44 hK44 => ?_
       refine swp_seq fun K45 hK45 => ?_
       refine swp_region ty_ok ?_
       try simp (maxSteps := 1000000) [bookV]
       repeat' (first | apply And.intro | intro _)
       any_goals (first | (refine hK45 _ ?_; clear hK45) | omega | (simp_all <;> omega))
       refine swp_if fun C46 hC46 => ?_
       try simp (maxSteps := 1000000) [bookV]
       refine hC46 _ (fun hc46 => ?_) (fun hc46 => ?_)
       ·clear hC46
        try simp at hc46
        refine swp_seq fun K47 hK47 => ?_
        refine swp_region ty_ok ?_
        try simp (maxSteps := 1000000) [bookV]
        repeat' (first | apply And.intro | intro _)
        any_goals (first | (refine hK47 _ ?_; clear hK47) | omega | (simp_all <;> omega))
        refine swp_ret ?_
        simp [fnPost, Try.results65, resP, tupOf]
        exact fd_err (fd_r (N := (bE i).length) (p := bPlain i) hzE hhE hlE (by have h := hc46; omega)) (by omega)
       ·clear hC46
        try simp at hc46
        refine swp_skip ?_
        try simp only [thn, inBlk]
        refine hK44 _ ?_; clear hK44
        refine swp_seq fun K48 hK48 => ?_
        refine swp_region ty_ok ?_
        try simp (maxSteps := 1000000) [bookV]
        repeat' (first | apply And.intro | intro _)
        any_goals (first | (refine hK48 _ ?_; clear hK48) | omega | (simp_all <;> omega))
        refine swp_ret ?_
        simp [fnPost, Try.results65, resP, tupOf]
        exact fd_ok (p := bPlain i) (es := bE i) hzE hhE hlE (by have h := hc46; omega)
    ·clear hC23
     try simp at hc23
     refine swp_skip ?_
     try simp only [thn, inBlk]
     refine hK21 _ ?_; clear hK21
     refine swp_region ty_ok ?_
     try simp (maxSteps := 1000000) [bookV]
     repeat' apply And.intro
     any_goals (try omega)
     refine hL8 _ ⟨[(3, .ptr 0 0 0 1), (1, .ro (.ints .u8 b)), (9, .int .i64 ((z + 1) : Nat)), (2, .int .i64 (getP b q 1))], [(0, some ⟨.rows 4 [[.int .i64 (i : Nat), .int .i64 (bPlain i : Nat), .ro (.ints .i64 (bE i)), .ro (.ints .i64 (bR i))]], true, 25⟩)], 1⟩ _ ?_ ⟨(z + 1), (getP b q 1), by omega, by (have := getP_bd (b := b) (p := q) (size := 1) hm; omega), by (rw [← hI, zr_next (by omega) hg0 (by rcases bit1 hp q with h | h; exact h; exact absurd h hc23)]; rfl), rfl, rfl⟩ ⟨by simp [getT, PV.lo, lo1, hzw], by simp [getH, Blk.lo, Cells.lo, lo1], rfl, by omega⟩
     omega

end Go.Proofs.Ytgheplondkoedaa

