import Derived.Test.YtgheplondkoedaaWf
import Derived.Test.YtgheplondkoedaaTyh
import Derived.Test.YtgheplondkoedaaBkq
import Derived.Test.YtgheplondkoedaaHsrt
import Derived.Test.YtgheplondkoedaaHbk
import Derived.Test.YtgheplondkoedaaHbk2
import Derived.Test.YtgheplondkoedaaHbk3
import Derived.Test.YtgheplondkoedaaHbits
import Derived.Test.YtgheplondkoedaaHrd
import Derived.Test.YtgheplondkoedaaHrdq
import Derived.Test.YtgheplondkoedaaHbits2
import Derived.Test.YtgheplondkoedaaHbk4
import Derived.Test.YtgheplondkoedaaHbk5
import Derived.Test.YtgheplondkoedaaHbk6
import Derived.Test.YtgheplondkoedaaHbk8
import Derived.Test.YtgheplondkoedaaHbk9
import Derived.Test.YtgheplondkoedaaHgrow
import Derived.Test.YtgheplondkoedaaHst
import Derived.Test.YtgheplondkoedaaHrep
import Derived.Test.YtgheplondkoedaaHputh
import Derived.Test.YtgheplondkoedaaHft
import Derived.Test.YtgheplondkoedaaHpt
import Derived.Test.YtgheplondkoedaaHsg
import Derived.Test.YtgheplondkoedaaHgh
namespace Go.Proofs.Ytgheplondkoedaa
set_option linter.unusedVariables false
set_option linter.unusedSimpArgs false
set_option maxRecDepth 10000
open Go Go.Pv

attribute [local simp] runs gd step1 need evu un opnds opv ev cst cst1 cstL getT getH putT onL nxt argT cellsOf PV.one thn inBlk jmp fldP ldP ldC live Cells.len Cells.get Cells.w sug ldv bin eqF eq1 ops2 sh2 binv Tk.agg stC apC rdS apS cpC cpS mvL zp argsP idx fillP toInts chunks mkC ixS ixA oidx slP sl0 slA optL List.append mxF bltn frzA frz frzL frz1 pur1 Cells.pur PV.scal scal1 runD rdO PV.ids id1 zids ety Eff.on cnd minb and1b ifmax ifmin mxv sugI strv w0 w1 w2 wm1
theorem rdr_get (n : Nat) (b : List Int) (q : Int × Int) (size : Int) (hb : b.length ≤ 140737488355328) (hp : ∀ k : Nat, 0 ≤ b[k]?.getD 0 ∧ b[k]?.getD 0 ≤ 255) (hn : Bd q) : HCall Try.prog 57 [.ptr 4 0 0 1, .int .i64 size] [(4, some ⟨.rows 3 [[.ro (.ints .u8 b), .int .i64 (q).1, .int .i64 (q).2]], true, 99⟩)] n (.int .i64 (rN b q size)) [(4, some ⟨.rows 3 [[.ro (.ints .u8 b), .int .i64 ((rG b q size)).1, .int .i64 ((rG b q size)).2]], true, 99⟩)] := by
 refine hcall_body ty_ok Try.func57 rfl (by rfl) (by simp) ?_
 rw [Try.ntmps57]
 refine swp_seq fun K1 hK1 => ?_
 refine swp_region ty_ok ?_
 try simp (maxSteps := 1000000)
 repeat' (first | apply And.intro | intro _)
 any_goals (first | (refine hK1 _ ?_; clear hK1) | (first | omega | (simp only [IntKind.wrap_i64] at *; omega) | (simp_all; done) | (simp_all; omega)))
 refine swp_seq fun K2 hK2 => ?_
 refine swp_seq fun K3 hK3 => ?_
 refine swp_region ty_ok ?_
 try simp (maxSteps := 1000000)
 repeat' (first | apply And.intro | intro _)
 any_goals (first | (refine hK3 _ ?_; clear hK3) | (first | omega | (simp only [IntKind.wrap_i64] at *; omega) | (simp_all; done) | (simp_all; omega)))
 refine swp_if fun C4 hC4 => ?_
 try simp (maxSteps := 1000000)
 refine hC4 _ (fun hc4 => ?_) (fun hc4 => ?_)
 ·clear hC4
  try simp at hc4
  refine swp_seq fun K5 hK5 => ?_
  refine swp_region ty_ok ?_
  try simp (maxSteps := 1000000)
  repeat' (first | apply And.intro | intro _)
  any_goals (first | (refine hK5 _ ?_; clear hK5) | (first | omega | (simp only [IntKind.wrap_i64] at *; omega) | (simp_all; done) | (simp_all; omega)))
  refine swp_ret ?_
  simp [fnPostH, PV.inR, inR1, PV.inL, inL1, Blk.inL, Cells.inL, put_at, Try.results57, resP, tupOf]
  have h := hc4
  simp [rG_err size h, rN_err size h]
 ·clear hC4
  try simp at hc4
  refine swp_skip ?_
  try simp only [thn, inBlk]
  refine hK2 _ ?_; clear hK2
  refine swp_seq fun K6 hK6 => ?_
  refine swp_draw ty_ok mixed (ms := [0, 1, 3, 7, 0, 16, 48, 112, 0, 511, 1023, 2047, 2047, 2047, 4095, 24575, 65535]) (by kernel_rfl) ?_
  refine runD_cut 9 fun R7 hR7 => ?_
  try simp (maxSteps := 1000000) [List.take_succ_cons, List.take_zero, List.drop_succ_cons, List.drop_zero]
  repeat' (first | apply And.intro | intro _)
  any_goals (first | (refine hR7 _ _ _ _ ?_; clear hR7) | (first | omega | (simp only [IntKind.wrap_i64] at *; omega) | (simp_all; done) | (simp_all; omega)))
  refine runD_cut 1 fun R8 hR8 => ?_
  try simp (maxSteps := 1000000) [List.take_succ_cons, List.take_zero, List.drop_succ_cons, List.drop_zero]
  refine .inl ⟨_, get_ok b q.1 size hb hp hn, ?_⟩
  try simp (maxSteps := 1000000)
  repeat' (first | apply And.intro | intro _)
  any_goals (first | (refine hR8 _ _ _ _ ?_; clear hR8) | (first | omega | (simp only [IntKind.wrap_i64] at *; omega) | (simp_all; done) | (simp_all; omega)))
  try simp (maxSteps := 1000000) [List.take_succ_cons, List.take_zero, List.drop_succ_cons, List.drop_zero]
  repeat' (first | apply And.intro | intro _)
  any_goals (first | kernel_rfl | (refine hK6 _ ?_; clear hK6) | (first | omega | (simp only [IntKind.wrap_i64] at *; omega) | (simp_all; done) | (simp_all; omega)))
  refine swp_seq fun K10 hK10 => ?_
  refine swp_seq fun K11 hK11 => ?_
  refine swp_region ty_ok ?_
  try simp (maxSteps := 1000000)
  repeat' (first | apply And.intro | intro _)
  any_goals (first | (refine hK11 _ ?_; clear hK11) | (first | omega | (simp only [IntKind.wrap_i64] at *; omega) | (simp_all; done) | (simp_all; omega)))
  refine swp_seq fun K12 hK12 => ?_
  refine swp_region ty_ok ?_
  try simp (maxSteps := 1000000)
  repeat' (first | apply And.intro | intro _)
  any_goals (first | (refine hK12 _ ?_; clear hK12) | (first | omega | (simp only [IntKind.wrap_i64] at *; omega) | (simp_all; done) | (simp_all; omega)))
  refine swp_if fun C13 hC13 => ?_
  try simp (maxSteps := 1000000)
  refine hC13 _ (fun hc13 => ?_) (fun hc13 => ?_)
  ·clear hC13
   try simp at hc13
   refine swp_region ty_ok ?_
   try simp (maxSteps := 1000000)
   repeat' (first | apply And.intro | intro _)
   any_goals (first | (refine hK10 _ ?_; clear hK10) | (first | omega | (simp only [IntKind.wrap_i64] at *; omega) | (simp_all; done) | (simp_all; omega)))
   refine swp_seq fun K14 hK14 => ?_
   refine swp_region ty_ok ?_
   try simp (maxSteps := 1000000)
   repeat' (first | apply And.intro | intro _)
   any_goals (first | (refine hK14 _ ?_; clear hK14) | (first | omega | (simp only [IntKind.wrap_i64] at *; omega) | (simp_all; done) | (simp_all; omega)))
   refine swp_ret ?_
   simp [fnPostH, PV.inR, inR1, PV.inL, inL1, Blk.inL, Cells.inL, put_at, Try.results57, resP, tupOf]
   have hq : q.2 = 0 := by assumption
   have hE := hc13
   simp [rG_yes hq hE, rN_go size hq, hE]
  ·clear hC13
   try simp at hc13
   refine swp_skip ?_
   try simp only [thn, inBlk]
   refine hK10 _ ?_; clear hK10
   refine swp_seq fun K15 hK15 => ?_
   refine swp_region ty_ok ?_
   try simp (maxSteps := 1000000)
   repeat' (first | apply And.intro | intro _)
   any_goals (first | (refine hK15 _ ?_; clear hK15) | (first | omega | (simp only [IntKind.wrap_i64] at *; omega) | (simp_all; done) | (simp_all; omega)))
   refine swp_ret ?_
   simp [fnPostH, PV.inR, inR1, PV.inL, inL1, Blk.inL, Cells.inL, put_at, Try.results57, resP, tupOf]
   have hq : q.2 = 0 := by assumption
   simp [rG_no hq hc13, rN_go size hq]

theorem rdr_esc (b : List Int) (q : Int × Int) (hb : b.length ≤ 140737488355328) (hp : ∀ k : Nat, 0 ≤ b[k]?.getD 0 ∧ b[k]?.getD 0 ≤ 255) (hn : Bd q) : HCall Try.prog 58 [.ptr 4 0 0 1] [(4, some ⟨.rows 3 [[.ro (.ints .u8 b), .int .i64 (q).1, .int .i64 (q).2]], true, 99⟩)] 6 (.int .i64 (eV b q)) [(4, some ⟨.rows 3 [[.ro (.ints .u8 b), .int .i64 ((eF b q)).1, .int .i64 ((eF b q)).2]], true, 99⟩)] := by
 refine hcall_body ty_ok Try.func58 rfl (by rfl) (by simp) ?_
 rw [Try.ntmps58]
 refine swp_seq fun K1 hK1 => ?_
 refine swp_region ty_ok ?_
 try simp (maxSteps := 1000000)
 repeat' (first | apply And.intro | intro _)
 any_goals (first | (refine hK1 _ ?_; clear hK1) | (first | omega | (simp only [IntKind.wrap_i64] at *; omega) | (simp_all; done) | (simp_all; omega)))
 refine swp_seq fun K2 hK2 => ?_
 refine swp_region ty_ok ?_
 try simp (maxSteps := 1000000)
 repeat' (first | apply And.intro | intro _)
 any_goals (first | (refine hK2 _ ?_; clear hK2) | (first | omega | (simp only [IntKind.wrap_i64] at *; omega) | (simp_all; done) | (simp_all; omega)))
 refine swp_seq fun K3 hK3 => ?_
 refine swp_block ?_
 refine swp_loop 6 (fun m_ s_ => ∃ (k : Nat), (k ≤ 9) ∧ (eC b q k) ∧ s_ = ⟨[(0, .ptr 4 0 0 1), (3, .int .i64 (k : Nat))], [(4, some ⟨.rows 3 [[.ro (.ints .u8 b), .int .i64 ((eR b q k)).1, .int .i64 ((eR b q k)).2]], true, 99⟩)], 6⟩ ∧ m_ = 10 - k) _ ⟨[(0, .ptr 4 0 0 1), (3, .int .i64 (0 : Nat))], [(4, some ⟨.rows 3 [[.ro (.ints .u8 b), .int .i64 ((eR b q 0)).1, .int .i64 ((eR b q 0)).2]], true, 99⟩)], 6⟩ ⟨by simp [getT, PV.lo, lo1], by simp [getH, Blk.lo, Cells.lo, lo1, eR_zero], rfl, by omega⟩ ⟨(0), by omega, by exact eC_zero b q, rfl, rfl⟩ ?_
 rintro m_ s_ ⟨k, hL4_0, hL4_1, rfl, rfl⟩ KL4 hL4
 have hkw := wnext (i := k) (by omega)
 have hC := (by assumption : eC b q k)
 refine swp_seq fun K5 hK5 => ?_
 refine swp_seq fun K6 hK6 => ?_
 refine swp_region ty_ok ?_
 refine runs_cut 1 fun R7 hR7 => ?_
 try simp (maxSteps := 1000000) [List.take_succ_cons, List.take_zero, List.drop_succ_cons, List.drop_zero]
 repeat' (first | apply And.intro | intro _)
 any_goals (first | (refine hR7 _ ?_; clear hR7) | (first | omega | (simp only [IntKind.wrap_i64] at *; omega) | (simp_all; done) | (simp_all; omega)))
 refine runs_cut 1 fun R8 hR8 => ?_
 try simp (maxSteps := 1000000) [List.take_succ_cons, List.take_zero, List.drop_succ_cons, List.drop_zero]
 refine .inr (hcl_mk (rdr_get 6 b (eR b q k) 1 hb hp (eR_bd hb hn k)) (by simp [PV.ids, id1, getH, Blk.inL, Cells.inL, inL1]) (by simp [PV.inL, inL1]) (by simp) ?_)
 try simp (maxSteps := 1000000)
 repeat' (first | apply And.intro | intro _)
 any_goals (first | (refine hR8 _ ?_; clear hR8) | (first | omega | (simp only [IntKind.wrap_i64] at *; omega) | (simp_all; done) | (simp_all; omega)))
 try simp (maxSteps := 1000000) [List.take_succ_cons, List.take_zero, List.drop_succ_cons, List.drop_zero]
 repeat' (first | apply And.intro | intro _)
 any_goals (first | (refine hK6 _ ?_; clear hK6) | (first | omega | (simp only [IntKind.wrap_i64] at *; omega) | (simp_all; done) | (simp_all; omega)))
 refine swp_if fun C9 hC9 => ?_
 try simp (maxSteps := 1000000)
 refine hC9 _ (fun hc9 => ?_) (fun hc9 => ?_)
 ·clear hC9
  try simp at hc9
  refine swp_skip ?_
  try simp only [thn, inBlk]
  refine hK5 _ ?_; clear hK5
  refine swp_block ?_
  refine swp_seq fun K10 hK10 => ?_
  obtain ⟨h91, h92⟩ := hc9
  obtain ⟨hk8, hk1⟩ := eR_one (by assumption) h91
  refine swp_region ty_ok ?_
  try simp (maxSteps := 1000000)
  repeat' (first | apply And.intro | intro _)
  any_goals (first | (refine hK10 _ ?_; clear hK10) | (first | omega | (simp only [IntKind.wrap_i64] at *; omega) | (simp_all; done) | (simp_all; omega)))
  refine swp_seq fun K11 hK11 => ?_
  refine swp_region ty_ok ?_
  try simp (maxSteps := 1000000)
  repeat' (first | apply And.intro | intro _)
  any_goals (first | (refine hK11 _ ?_; clear hK11) | (first | omega | (simp only [IntKind.wrap_i64] at *; omega) | (simp_all; done) | (simp_all; omega)))
  refine swp_if fun C12 hC12 => ?_
  try simp (maxSteps := 1000000)
  refine hC12 _ (fun hc12 => ?_) (fun hc12 => ?_)
  ·clear hC12
   try simp at hc12
   refine swp_region ty_ok ?_
   try simp (maxSteps := 1000000)
   repeat' apply And.intro
   any_goals (try omega)
   refine hL4 _ ⟨[(0, .ptr 4 0 0 1), (3, .int .i64 ((k + 1) : Nat))], [(4, some ⟨.rows 3 [[.ro (.ints .u8 b), .int .i64 ((eR b q (k + 1))).1, .int .i64 ((eR b q (k + 1))).2]], true, 99⟩)], 6⟩ _ ?_ ⟨(k + 1), by omega, by exact eC_succ hC hk1, rfl, rfl⟩ ⟨by simp [getT, PV.lo, lo1, hkw], by (first | (have hnx := eR_nx (b := b) (q := q) (k := k) (by omega); simp [getH, Blk.lo, Cells.lo, lo1, hnx]; done) | (have hnx := eR_nx8 (b := b) (q := q) (k := k) (by omega); simp [getH, Blk.lo, Cells.lo, lo1, hnx]; done)), rfl, by omega⟩
   omega
  ·clear hC12
   try simp at hc12
   refine swp_skip ?_
   try simp only [thn, inBlk]
   refine hL4 _ ⟨[(0, .ptr 4 0 0 1), (3, .int .i64 ((k + 1) : Nat))], [(4, some ⟨.rows 3 [[.ro (.ints .u8 b), .int .i64 ((eR b q (k + 1))).1, .int .i64 ((eR b q (k + 1))).2]], true, 99⟩)], 6⟩ _ ?_ ⟨(k + 1), by omega, by exact eC_succ hC hk1, rfl, rfl⟩ ⟨by simp [getT, PV.lo, lo1, hkw], by (first | (have hnx := eR_nx (b := b) (q := q) (k := k) (by omega); simp [getH, Blk.lo, Cells.lo, lo1, hnx]; done) | (have hnx := eR_nx8 (b := b) (q := q) (k := k) (by omega); simp [getH, Blk.lo, Cells.lo, lo1, hnx]; done)), rfl, by omega⟩
   omega
 ·clear hC9
  try simp at hc9
  refine swp_exit ?_
  simp [thn, inBlk]
  refine hK3 _ ?_; clear hK3
  refine swp_seq fun K13 hK13 => ?_
  have hn1 : ¬ rN b (eR b q k) 1 = 1 := fun h => (hc9) h (rG_nz (by rw [h]; omega)).2
  have hM : eM b q = k := eM_eq (by assumption) hC hn1
  have hS : eS b q = rG b (eR b q k) 1 := by unfold eS; rw [hM]
  have hk4 : IntKind.i64.wrap ((k : Int) + 4) = (k : Int) + 4 := w64 (by omega)
  have htn : ((k : Int) + 4).toNat = k + 4 := (by omega)
  have f1 := shlK (k := k) (by assumption)
  have htw := two_le (m := k) (by assumption)
  have hVb := rN_le (b := b) (q := rG b (eR b q k) 1) (s := k + 4) (nn hp) (by omega)
  rw [show ((k + 4 : Nat) : Int) = (k : Int) + 4 by push_cast; rfl] at hVb
  have hF : rG b (rG b (eR b q k) 1) ((k : Int) + 4) = eF b q := by unfold eF; rw [hS, hM]
  have hV0 : ((2 ^ (k + 4) : Nat) : Int) + rN b (rG b (eR b q k) 1) ((k : Int) + 4) = eV b q := by unfold eV; rw [hS, hM]
  obtain ⟨P, hP⟩ : ∃ P, 2 ^ (k + 4) = P := ⟨_, rfl⟩
  rw [hP] at f1 htw hV0
  have hV : IntKind.i64.wrap ((P : Int) + rN b (rG b (eR b q k) 1) ((k : Int) + 4)) = eV b q := by rw [← hV0]; exact w64 (by omega)
  refine swp_draw ty_ok mixed (ms := [0, 1, 3, 0, 0, 16, 56, 127, 255]) (by kernel_rfl) ?_
  refine runD_cut 6 fun R14 hR14 => ?_
  try simp (maxSteps := 1000000) [hk4, htn, f1, hV, hF, List.take_succ_cons, List.take_zero, List.drop_succ_cons, List.drop_zero]
  repeat' (first | apply And.intro | intro _)
  any_goals (first | (refine hR14 _ _ _ _ ?_; clear hR14) | (first | omega | (simp only [IntKind.wrap_i64] at *; omega) | (simp_all; done) | (simp_all; omega)))
  refine runD_cut 1 fun R15 hR15 => ?_
  try simp (maxSteps := 1000000) [hk4, htn, f1, hV, hF, List.take_succ_cons, List.take_zero, List.drop_succ_cons, List.drop_zero]
  refine .inr (hcl_mk (rdr_get 54 b (rG b (eR b q k) 1) ((k : Int) + 4) hb hp (rG_bd hb (eR_bd hb hn k) 1)) (by simp [PV.ids, id1, getH, Blk.inL, Cells.inL, inL1]) (by simp [PV.inL, inL1]) (by simp) ?_)
  try simp (maxSteps := 1000000) [hk4, htn, f1, hV, hF]
  repeat' (first | apply And.intro | intro _)
  any_goals (first | (refine hR15 _ _ _ _ ?_; clear hR15) | (first | omega | (simp only [IntKind.wrap_i64] at *; omega) | (simp_all; done) | (simp_all; omega)))
  try simp (maxSteps := 1000000) [hk4, htn, f1, hV, hF, List.take_succ_cons, List.take_zero, List.drop_succ_cons, List.drop_zero]
  repeat' (first | apply And.intro | intro _)
  any_goals (first | kernel_rfl | (refine hK13 _ ?_; clear hK13) | (first | omega | (simp only [IntKind.wrap_i64] at *; omega) | (simp_all; done) | (simp_all; omega)))
  refine swp_ret ?_
  simp [fnPostH, PV.inR, inR1, PV.inL, inL1, Blk.inL, Cells.inL, put_at, Try.results58, resP, tupOf]

set_option maxHeartbeats 2000000 in
theorem values_h (i : Nat) (h1 : 1 ≤ i) (h2 : i ≤ 12) (e : Nat) (he : e < bMany i) : HCall Try.prog 98 [.agg [.int .i64 (bDim i : Nat), .int .i64 (bLow i), .int .i64 (bHigh i), .int .i64 (bPlain i : Nat)], .int .i64 (e : Nat)] [] 2 (.sl 3 0 (bDim i) (bDim i)) [(3, some ⟨.ints .i64 (bVal i e), false, 3⟩)] := by
 have hB := bk_ok h1 h2
 have hdim := hB.dim
 have hlow := hB.low
 have hhigh := hB.high
 have hwide := hB.wide
 have hmany := hB.many
 have hplain := hB.plain
 refine hcall_body ty_ok Try.func98 rfl (by rfl) (by simp) ?_
 rw [Try.ntmps98]
 refine swp_seq fun K1 hK1 => ?_
 refine swp_region ty_ok ?_
 try simp (maxSteps := 1000000)
 repeat' (first | apply And.intro | intro _)
 any_goals (first | (refine hK1 _ ?_; clear hK1) | (first | omega | (simp only [IntKind.wrap_i64] at *; omega) | (simp_all; done) | (simp_all; omega)))
 refine swp_seq fun K2 hK2 => ?_
 refine swp_region ty_ok ?_
 refine runs_cut 2 fun R3 hR3 => ?_
 try simp (maxSteps := 1000000) [List.take_succ_cons, List.take_zero, List.drop_succ_cons, List.drop_zero]
 repeat' (first | apply And.intro | intro _)
 any_goals (first | (refine hR3 _ ?_; clear hR3) | (first | omega | (simp only [IntKind.wrap_i64] at *; omega) | (simp_all; done) | (simp_all; omega)))
 refine runs_cut 1 fun R4 hR4 => ?_
 try simp (maxSteps := 1000000) [List.take_succ_cons, List.take_zero, List.drop_succ_cons, List.drop_zero]
 repeat' (first | apply And.intro | intro _)
 any_goals (first | (refine Or.inr (hR4 _ ?_); clear hR4) | (first | omega | (simp only [IntKind.wrap_i64] at *; omega) | (simp_all; done) | (simp_all; omega)))
 try simp (maxSteps := 1000000) [List.take_succ_cons, List.take_zero, List.drop_succ_cons, List.drop_zero]
 repeat' (first | apply And.intro | intro _)
 any_goals (first | (refine hK2 _ ?_; clear hK2) | (first | omega | (simp only [IntKind.wrap_i64] at *; omega) | (simp_all; done) | (simp_all; omega)))
 refine swp_seq fun K5 hK5 => ?_
 refine swp_seq fun K6 hK6 => ?_
 have hd1 : IntKind.i64.wrap ((bDim i : Nat) - 1 : Int) = (bDim i : Nat) - 1 := w64 (by omega)
 refine swp_region ty_ok ?_
 try simp (maxSteps := 1000000) [hd1]
 repeat' (first | apply And.intro | intro _)
 any_goals (first | (refine hK6 _ ?_; clear hK6) | (first | omega | (simp only [IntKind.wrap_i64] at *; omega) | (simp_all; done) | (simp_all; omega)))
 refine swp_block ?_
 refine swp_loop 4 (fun m_ s_ => ∃ (j : Nat) (q : Nat) (tl : List Int), (j + tl.length = bDim i) ∧ (q < bMany i) ∧ (bDg i j q ++ tl = bVal i e) ∧ s_ = ⟨[(1, .int .i64 (q : Nat)), (2, .ptr 2 0 0 1), (5, .sl 3 0 (bDim i) (bDim i)), (6, .int .i64 (((j : Nat) : Int) - 1))], [(2, some ⟨.rows 4 [[.int .i64 (bDim i : Nat), .int .i64 (bLow i), .int .i64 (bHigh i), .int .i64 (bPlain i : Nat)]], true, 115⟩), (3, some ⟨.ints .i64 (List.replicate j 0 ++ tl), false, 3⟩)], 4⟩ ∧ m_ = j + 1) _ ⟨[(1, .int .i64 (e : Nat)), (2, .ptr 2 0 0 1), (5, .sl 3 0 (bDim i) (bDim i)), (6, .int .i64 ((((bDim i) : Nat) : Int) - 1))], [(2, some ⟨.rows 4 [[.int .i64 (bDim i : Nat), .int .i64 (bLow i), .int .i64 (bHigh i), .int .i64 (bPlain i : Nat)]], true, 115⟩), (3, some ⟨.ints .i64 (List.replicate (bDim i) 0 ++ []), false, 3⟩)], 4⟩ ⟨by simp [getT, PV.lo, lo1], by simp [getH, Blk.lo, Cells.lo, lo1], rfl, by omega⟩ ⟨(bDim i), (e), ([]), by rfl, by exact he, by (rw [List.append_nil]; rfl), rfl, rfl⟩ ?_
 rintro m_ s_ ⟨j, q, tl, hL7_0, hL7_1, hL7_2, rfl, rfl⟩ KL7 hL7
 have hv := (by assumption : bDg i j q ++ tl = bVal i e)
 refine swp_seq fun K8 hK8 => ?_
 refine swp_seq fun K9 hK9 => ?_
 refine swp_region ty_ok ?_
 try simp (maxSteps := 1000000)
 repeat' (first | apply And.intro | intro _)
 any_goals (first | (refine hK9 _ ?_; clear hK9) | (first | omega | (simp only [IntKind.wrap_i64] at *; omega) | (simp_all; done) | (simp_all; omega)))
 refine swp_if fun C10 hC10 => ?_
 try simp (maxSteps := 1000000)
 refine hC10 _ (fun hc10 => ?_) (fun hc10 => ?_)
 ·clear hC10
  try simp at hc10
  refine swp_skip ?_
  try simp only [thn, inBlk]
  refine hK8 _ ?_; clear hK8
  refine swp_seq fun K11 hK11 => ?_
  refine swp_block ?_
  have hj1 : 1 ≤ j := (by have h := hc10; omega)
  obtain ⟨r, hr⟩ : ∃ r, q % bWide i = r := ⟨_, rfl⟩
  obtain ⟨p, hp⟩ : ∃ p, q / bWide i = p := ⟨_, rfl⟩
  have hrw : r < bWide i := by rw [← hr]; exact Nat.mod_lt _ (by omega)
  have hrm := tmod_nat hr
  have hpd := tdiv_nat hp
  have hpq : p ≤ q := by rw [← hp]; exact Nat.div_le_self _ _
  have hrl : IntKind.i64.wrap ((r : Int) + bLow i) = bLow i + r := by rw [w64 (by omega)]; omega
  have hpw : IntKind.i64.wrap (p : Int) = p := w64 (by omega)
  have hset := rep_set (j := j) (v := bLow i + r) (tl := tl) (by omega)
  have hwn : ¬ (bWide i = 0) := (by omega)
  have hjt := (by assumption : j + tl.length = bDim i)
  refine swp_draw ty_ok mixed (ms := [0, 0, 0, 0, 8, 28, 0, 64, 252, 0, 0, 1048, 3608, 3583, 11775, 32767]) (by kernel_rfl) ?_
  refine runD_cut 4 fun R12 hR12 => ?_
  try simp (maxSteps := 1000000) [hrm, hpd, hrl, hpw, hwn, tnp, hset, hjt, List.take_succ_cons, List.take_zero, List.drop_succ_cons, List.drop_zero]
  repeat' (first | apply And.intro | intro _)
  any_goals (first | (refine hR12 _ _ _ _ ?_; clear hR12) | (first | omega | (simp only [IntKind.wrap_i64] at *; omega) | (simp_all; done) | (simp_all; omega)))
  refine runD_cut 1 fun R13 hR13 => ?_
  try simp (maxSteps := 1000000) [hrm, hpd, hrl, hpw, hwn, tnp, hset, hjt, List.take_succ_cons, List.take_zero, List.drop_succ_cons, List.drop_zero]
  refine .inl ⟨_, wide_ok i h1 h2, ?_⟩
  try simp (maxSteps := 1000000) [hrm, hpd, hrl, hpw, hwn, tnp, hset, hjt]
  repeat' (first | apply And.intro | intro _)
  any_goals (first | (refine hR13 _ _ _ _ ?_; clear hR13) | (first | omega | (simp only [IntKind.wrap_i64] at *; omega) | (simp_all; done) | (simp_all; omega)))
  refine runD_cut 6 fun R14 hR14 => ?_
  try simp (maxSteps := 1000000) [hrm, hpd, hrl, hpw, hwn, tnp, hset, hjt, List.take_succ_cons, List.take_zero, List.drop_succ_cons, List.drop_zero]
  repeat' (first | apply And.intro | intro _)
  any_goals (first | (refine hR14 _ _ _ _ ?_; clear hR14) | (first | omega | (simp only [IntKind.wrap_i64] at *; omega) | (simp_all; done) | (simp_all; omega)))
  refine runD_cut 1 fun R15 hR15 => ?_
  try simp (maxSteps := 1000000) [hrm, hpd, hrl, hpw, hwn, tnp, hset, hjt, List.take_succ_cons, List.take_zero, List.drop_succ_cons, List.drop_zero]
  refine .inl ⟨_, wide_ok i h1 h2, ?_⟩
  try simp (maxSteps := 1000000) [hrm, hpd, hrl, hpw, hwn, tnp, hset, hjt]
  repeat' (first | apply And.intro | intro _)
  any_goals (first | (refine hR15 _ _ _ _ ?_; clear hR15) | (first | omega | (simp only [IntKind.wrap_i64] at *; omega) | (simp_all; done) | (simp_all; omega)))
  try simp (maxSteps := 1000000) [hrm, hpd, hrl, hpw, hwn, tnp, hset, hjt, List.take_succ_cons, List.take_zero, List.drop_succ_cons, List.drop_zero]
  repeat' (first | apply And.intro | intro _)
  any_goals (first | kernel_rfl | (refine hK11 _ ?_; clear hK11) | (first | omega | (simp only [IntKind.wrap_i64] at *; omega) | (simp_all; done) | (simp_all; omega)))
  have hjd : IntKind.i64.wrap ((j : Int) - 1 - 1) = (j : Int) - 1 - 1 := w64 (by omega)
  refine swp_region ty_ok ?_
  try simp (maxSteps := 1000000) [hjd]
  repeat' apply And.intro
  any_goals (try omega)
  refine hL7 _ ⟨[(1, .int .i64 (p : Nat)), (2, .ptr 2 0 0 1), (5, .sl 3 0 (bDim i) (bDim i)), (6, .int .i64 ((((j - 1) : Nat) : Int) - 1))], [(2, some ⟨.rows 4 [[.int .i64 (bDim i : Nat), .int .i64 (bLow i), .int .i64 (bHigh i), .int .i64 (bPlain i : Nat)]], true, 115⟩), (3, some ⟨.ints .i64 (List.replicate (j - 1) 0 ++ (bLow i + r) :: tl), false, 3⟩)], 4⟩ _ ?_ ⟨(j - 1), (p), ((bLow i + r) :: tl), by (simp only [List.length_cons]; omega), by omega, by (rw [← hv]; obtain ⟨k, rfl⟩ : ∃ k, j = k + 1 := ⟨j - 1, by omega⟩; rw [bDg, hr, hp, Nat.add_sub_cancel, List.append_assoc]; rfl), rfl, rfl⟩ ⟨by (simp [getT, PV.lo, lo1]; omega), by simp [getH, Blk.lo, Cells.lo, lo1], rfl, by omega⟩
  omega
 ·clear hC10
  try simp at hc10
  refine swp_exit ?_
  simp [thn, inBlk]
  refine hK5 _ ?_; clear hK5
  refine swp_seq fun K17 hK17 => ?_
  refine swp_region ty_ok ?_
  try simp (maxSteps := 1000000)
  repeat' (first | apply And.intro | intro _)
  any_goals (first | (refine hK17 _ ?_; clear hK17) | (first | omega | (simp only [IntKind.wrap_i64] at *; omega) | (simp_all; done) | (simp_all; omega)))
  refine swp_ret ?_
  simp [fnPostH, PV.inR, inR1, PV.inL, inL1, Blk.inL, Cells.inL, put_at, Try.results98, resP, tupOf]
  have hj : j = 0 := (by omega)
  subst hj
  have hv2 : tl = bVal i e := (by simpa [bDg] using hv)
  first | exact hv2.symm | exact hv2 | simp [hv2]

theorem valu_h (i : Nat) (h1 : 1 ≤ i) (h2 : i ≤ 12) (e : Nat) (he : e < bMany i) : HCall Try.prog 56 [.int .i64 (i : Nat), .int .i64 (e : Nat)] [] 1 (.tup [.sl 3 0 (bDim i) (bDim i), .int .i64 0]) [(3, some ⟨.ints .i64 (bVal i e), false, 3⟩)] := by
 have hB := bk_ok h1 h2
 have hdim := hB.dim
 have hlow := hB.low
 have hhigh := hB.high
 have hwide := hB.wide
 have hmany := hB.many
 have hplain := hB.plain
 refine hcall_body ty_ok Try.func56 rfl (by rfl) (by simp) ?_
 rw [Try.ntmps56]
 refine swp_seq fun K1 hK1 => ?_
 refine swp_region ty_ok ?_
 try simp (maxSteps := 1000000)
 repeat' (first | apply And.intro | intro _)
 any_goals (first | (refine hK1 _ ?_; clear hK1) | (first | omega | (simp only [IntKind.wrap_i64] at *; omega) | (simp_all; done) | (simp_all; omega)))
 refine swp_seq fun K2 hK2 => ?_
 refine swp_region ty_ok ?_
 refine runs_cut 1 fun R3 hR3 => ?_
 try simp (maxSteps := 1000000) [List.take_succ_cons, List.take_zero, List.drop_succ_cons, List.drop_zero]
 repeat' (first | apply And.intro | intro _)
 any_goals (first | (refine hR3 _ ?_; clear hR3) | (first | omega | (simp only [IntKind.wrap_i64] at *; omega) | (simp_all; done) | (simp_all; omega)))
 refine runs_cut 1 fun R4 hR4 => ?_
 try simp (maxSteps := 1000000) [List.take_succ_cons, List.take_zero, List.drop_succ_cons, List.drop_zero]
 refine .inl ⟨_, of_ok i h1 h2, ?_⟩
 try simp (maxSteps := 1000000)
 repeat' (first | apply And.intro | intro _)
 any_goals (first | (refine hR4 _ ?_; clear hR4) | (first | omega | (simp only [IntKind.wrap_i64] at *; omega) | (simp_all; done) | (simp_all; omega)))
 try simp (maxSteps := 1000000) [List.take_succ_cons, List.take_zero, List.drop_succ_cons, List.drop_zero]
 repeat' (first | apply And.intro | intro _)
 any_goals (first | (refine hK2 _ ?_; clear hK2) | (first | omega | (simp only [IntKind.wrap_i64] at *; omega) | (simp_all; done) | (simp_all; omega)))
 refine swp_seq fun K5 hK5 => ?_
 refine swp_seq fun K6 hK6 => ?_
 refine swp_region ty_ok ?_
 refine runs_cut 9 fun R7 hR7 => ?_
 try simp (maxSteps := 1000000) [List.take_succ_cons, List.take_zero, List.drop_succ_cons, List.drop_zero]
 repeat' (first | apply And.intro | intro _)
 any_goals (first | (refine hR7 _ ?_; clear hR7) | (first | omega | (simp only [IntKind.wrap_i64] at *; omega) | (simp_all; done) | (simp_all; omega)))
 refine runs_cut 1 fun R8 hR8 => ?_
 try simp (maxSteps := 1000000) [List.take_succ_cons, List.take_zero, List.drop_succ_cons, List.drop_zero]
 first | refine .inl ⟨_, fun hb => .inl ⟨many_ok i h1 h2, rfl⟩, ?_⟩ | refine .inl ⟨_, .inl ⟨many_ok i h1 h2, rfl⟩, ?_⟩ | refine .inl ⟨_, fun hb => .inl (many_ok i h1 h2), ?_⟩ | refine .inl ⟨_, .inl (many_ok i h1 h2), ?_⟩ | refine .inl ⟨_, by (intros; exact Or.inl (many_ok i h1 h2)), ?_⟩ | refine .inl ⟨_, by (intros; exact Or.inl ⟨many_ok i h1 h2, rfl⟩), ?_⟩ | refine .inl ⟨_, fun hb => .inl ⟨_, many_ok i h1 h2, by (try simp); exact ⟨rfl, rfl⟩⟩, ?_⟩
 repeat' (first | apply And.intro | intro _)
 any_goals (first | (refine hR8 _ ?_; clear hR8) | (first | omega | (simp only [IntKind.wrap_i64] at *; omega) | (simp_all; done) | (simp_all; omega)))
 try simp (maxSteps := 1000000) [List.take_succ_cons, List.take_zero, List.drop_succ_cons, List.drop_zero]
 repeat' (first | apply And.intro | intro _)
 any_goals (first | (refine hK6 _ ?_; clear hK6) | (first | omega | (simp only [IntKind.wrap_i64] at *; omega) | (simp_all; done) | (simp_all; omega)))
 refine swp_if fun C9 hC9 => ?_
 try simp (maxSteps := 1000000)
 refine hC9 _ (fun hc9 => ?_) (fun hc9 => ?_)
 ·exfalso
  have h := hc9
  simp at h
  omega
 ·clear hC9
  try simp at hc9
  refine swp_skip ?_
  try simp only [thn, inBlk]
  refine hK5 _ ?_; clear hK5
  refine swp_seq fun K10 hK10 => ?_
  refine swp_region ty_ok ?_
  refine runs_cut 2 fun R11 hR11 => ?_
  try simp (maxSteps := 1000000) [List.take_succ_cons, List.take_zero, List.drop_succ_cons, List.drop_zero]
  repeat' (first | apply And.intro | intro _)
  any_goals (first | (refine hR11 _ ?_; clear hR11) | (first | omega | (simp only [IntKind.wrap_i64] at *; omega) | (simp_all; done) | (simp_all; omega)))
  refine runs_cut 1 fun R12 hR12 => ?_
  try simp (maxSteps := 1000000) [List.take_succ_cons, List.take_zero, List.drop_succ_cons, List.drop_zero]
  refine .inr (hcl_mk (values_h i h1 h2 e he) (by simp [PV.ids, id1, getH, Blk.inL, Cells.inL, inL1]) (by simp [PV.inL, inL1]) (by simp) ?_)
  try simp (maxSteps := 1000000)
  repeat' (first | apply And.intro | intro _)
  any_goals (first | (refine hR12 _ ?_; clear hR12) | (first | omega | (simp only [IntKind.wrap_i64] at *; omega) | (simp_all; done) | (simp_all; omega)))
  try simp (maxSteps := 1000000) [List.take_succ_cons, List.take_zero, List.drop_succ_cons, List.drop_zero]
  repeat' (first | apply And.intro | intro _)
  any_goals (first | (refine hK10 _ ?_; clear hK10) | (first | omega | (simp only [IntKind.wrap_i64] at *; omega) | (simp_all; done) | (simp_all; omega)))
  refine swp_ret ?_
  simp [fnPostH, PV.inR, inR1, PV.inL, inL1, Blk.inL, Cells.inL, put_at, Try.results56, resP, tupOf]

set_option maxHeartbeats 8000000 in
theorem hget_ok (i : Nat) (h1 : 1 ≤ i) (h2 : i ≤ 11) (b : List Int) (at_ : Int) (hb : b.length ≤ 140737488355328) (hp : ∀ k : Nat, 0 ≤ b[k]?.getD 0 ∧ b[k]?.getD 0 ≤ 255) (hat : -9223372036854775808 ≤ at_ ∧ at_ ≤ 9223372036854775807) : PCall Try.prog 17 [.ro (.ints .u8 b), .int .i64 at_, bookV i] (.tup [.ro (.ints .i64 (hgV i b at_)), .int .i64 (hgP i b at_), .int .i64 (hgE i b at_)]) := by
 have hFd := (hkF h1 h2).d
 have hd4 : 2 ≤ bDim i ∧ bDim i ≤ 4 := by rw [hFd]; split <;> omega
 refine pcall_body ty_ok Try.func17 rfl (by rfl) (by simp) ?_
 rw [Try.ntmps17]
 refine swp_seq fun K1 hK1 => ?_
 refine swp_region ty_ok ?_
 try simp (maxSteps := 1000000) [bookV]
 repeat' (first | apply And.intro | intro _)
 any_goals (first | (refine hK1 _ ?_; clear hK1) | (first | omega | (simp only [IntKind.wrap_i64] at *; omega) | (simp_all; done) | (simp_all; omega)))
 refine swp_seq fun K2 hK2 => ?_
 refine swp_seq fun K3 hK3 => ?_
 refine swp_region ty_ok ?_
 try simp (maxSteps := 1000000) [bookV]
 repeat' (first | apply And.intro | intro _)
 any_goals (first | (refine hK3 _ ?_; clear hK3) | (first | omega | (simp only [IntKind.wrap_i64] at *; omega) | (simp_all; done) | (simp_all; omega)))
 refine swp_if fun C4 hC4 => ?_
 try simp (maxSteps := 1000000) [bookV]
 refine hC4 _ (fun hc4 => ?_) (fun hc4 => ?_)
 ·exfalso
  have h := hc4
  simp at h
  omega
 ·clear hC4
  try simp at hc4
  refine swp_skip ?_
  try simp only [thn, inBlk]
  refine hK2 _ ?_; clear hK2
  refine swp_seq fun K5 hK5 => ?_
  refine swp_region ty_ok ?_
  refine runs_cut 3 fun R6 hR6 => ?_
  try simp (maxSteps := 1000000) [bookV, List.take_succ_cons, List.take_zero, List.drop_succ_cons, List.drop_zero]
  repeat' (first | apply And.intro | intro _)
  any_goals (first | (refine hR6 _ ?_; clear hR6) | (first | omega | (simp only [IntKind.wrap_i64] at *; omega) | (simp_all; done) | (simp_all; omega)))
  refine runs_cut 1 fun R7 hR7 => ?_
  try simp (maxSteps := 1000000) [bookV, List.take_succ_cons, List.take_zero, List.drop_succ_cons, List.drop_zero]
  refine .inl ⟨_, read_ok i h1 (by omega) b at_ hb hp hat, ?_⟩
  try simp (maxSteps := 1000000) [bookV]
  repeat' (first | apply And.intro | intro _)
  any_goals (first | (refine hR7 _ ?_; clear hR7) | (first | omega | (simp only [IntKind.wrap_i64] at *; omega) | (simp_all; done) | (simp_all; omega)))
  try simp (maxSteps := 1000000) [bookV, List.take_succ_cons, List.take_zero, List.drop_succ_cons, List.drop_zero]
  repeat' (first | apply And.intro | intro _)
  any_goals (first | (refine hK5 _ ?_; clear hK5) | (first | omega | (simp only [IntKind.wrap_i64] at *; omega) | (simp_all; done) | (simp_all; omega)))
  refine swp_seq fun K8 hK8 => ?_
  refine swp_seq fun K9 hK9 => ?_
  refine swp_region ty_ok ?_
  try simp (maxSteps := 1000000) [bookV]
  repeat' (first | apply And.intro | intro _)
  any_goals (first | (refine hK9 _ ?_; clear hK9) | (first | omega | (simp only [IntKind.wrap_i64] at *; omega) | (simp_all; done) | (simp_all; omega)))
  refine swp_if fun C10 hC10 => ?_
  try simp (maxSteps := 1000000) [bookV]
  refine hC10 _ (fun hc10 => ?_) (fun hc10 => ?_)
  ·clear hC10
   try simp at hc10
   refine swp_seq fun K11 hK11 => ?_
   refine swp_region ty_ok ?_
   try simp (maxSteps := 1000000) [bookV]
   repeat' (first | apply And.intro | intro _)
   any_goals (first | (refine hK11 _ ?_; clear hK11) | (first | omega | (simp only [IntKind.wrap_i64] at *; omega) | (simp_all; done) | (simp_all; omega)))
   refine swp_ret ?_
   simp [fnPost, Try.results17, resP, tupOf]
   exact hg_f (by assumption)
  ·clear hC10
   try simp at hc10
   refine swp_skip ?_
   try simp only [thn, inBlk]
   refine hK8 _ ?_; clear hK8
   refine swp_seq fun K12 hK12 => ?_
   have hf0 := hc10
   obtain ⟨e, he, hel, hpb⟩ := hg_ent h1 (by omega) hp hf0
   have hvl := bVal_len i e
   have hvs : hgL i b at_ = bVal i e := by unfold hgL; rw [he, Int.toNat_natCast]
   have hq0 : Bd (fdP (bPlain i) (bE i) b at_, (0 : Int)) := ⟨by show _ ≤ fdP (bPlain i) (bE i) b at_; omega, by show fdP (bPlain i) (bE i) b at_ ≤ _; omega⟩
   refine swp_region ty_ok ?_
   refine runs_cut 3 fun R13 hR13 => ?_
   try simp (maxSteps := 1000000) [bookV, he, List.take_succ_cons, List.take_zero, List.drop_succ_cons, List.drop_zero]
   repeat' (first | apply And.intro | intro _)
   any_goals (first | (refine hR13 _ ?_; clear hR13) | (first | omega | (simp only [IntKind.wrap_i64] at *; omega) | (simp_all; done) | (simp_all; omega)))
   refine runs_cut 1 fun R14 hR14 => ?_
   try simp (maxSteps := 1000000) [bookV, he, List.take_succ_cons, List.take_zero, List.drop_succ_cons, List.drop_zero]
   refine .inr (hcl_mk (valu_h i h1 (by omega) e hel) (by simp [PV.ids, id1, getH, Blk.inL, Cells.inL, inL1]) (by simp [PV.inL, inL1]) (by simp) ?_)
   try simp (maxSteps := 1000000) [bookV, he]
   repeat' (first | apply And.intro | intro _)
   any_goals (first | (refine hR14 _ ?_; clear hR14) | (first | omega | (simp only [IntKind.wrap_i64] at *; omega) | (simp_all; done) | (simp_all; omega)))
   try simp (maxSteps := 1000000) [bookV, he, List.take_succ_cons, List.take_zero, List.drop_succ_cons, List.drop_zero]
   repeat' (first | apply And.intro | intro _)
   any_goals (first | (refine hK12 _ ?_; clear hK12) | (first | omega | (simp only [IntKind.wrap_i64] at *; omega) | (simp_all; done) | (simp_all; omega)))
   refine swp_seq fun K15 hK15 => ?_
   refine swp_seq fun K16 hK16 => ?_
   refine swp_region ty_ok ?_
   refine runs_cut 2 fun R17 hR17 => ?_
   try simp (maxSteps := 1000000) [bookV, List.take_succ_cons, List.take_zero, List.drop_succ_cons, List.drop_zero]
   repeat' (first | apply And.intro | intro _)
   any_goals (first | (refine hR17 _ ?_; clear hR17) | (first | omega | (simp only [IntKind.wrap_i64] at *; omega) | (simp_all; done) | (simp_all; omega)))
   try simp (maxSteps := 1000000) [bookV, List.take_succ_cons, List.take_zero, List.drop_succ_cons, List.drop_zero]
   refine .inl ⟨_, signed_ok i, ?_⟩
   try simp (maxSteps := 1000000) [bookV]
   repeat' (first | apply And.intro | intro _)
   any_goals (first | (refine hK16 _ ?_; clear hK16) | (first | omega | (simp only [IntKind.wrap_i64] at *; omega) | (simp_all; done) | (simp_all; omega)))
   refine swp_if fun C18 hC18 => ?_
   try simp (maxSteps := 1000000) [bookV]
   refine hC18 _ (fun hc18 => ?_) (fun hc18 => ?_)
   ·clear hC18
    try simp at hc18
    refine swp_seq fun K19 hK19 => ?_
    refine swp_region ty_ok ?_
    try simp (maxSteps := 1000000) [bookV]
    repeat' (first | apply And.intro | intro _)
    any_goals (first | (refine hK19 _ ?_; clear hK19) | (first | omega | (simp only [IntKind.wrap_i64] at *; omega) | (simp_all; done) | (simp_all; omega)))
    refine swp_ret ?_
    simp [fnPost, Try.results17, resP, tupOf]
    obtain ⟨e1, e2, e3⟩ := hg_s hf0 (by assumption)
    rw [hvs] at e1
    exact ⟨hvl, e1, e2, e3⟩
   ·clear hC18
    try simp at hc18
    refine swp_skip ?_
    try simp only [thn, inBlk]
    refine hK15 _ ?_; clear hK15
    refine swp_seq fun K20 hK20 => ?_
    have hsg : hSig i = false := by simpa using hc18
    refine swp_region ty_ok ?_
    try simp (maxSteps := 1000000) [bookV]
    repeat' (first | apply And.intro | intro _)
    any_goals (first | (refine hK20 _ ?_; clear hK20) | (first | omega | (simp only [IntKind.wrap_i64] at *; omega) | (simp_all; done) | (simp_all; omega)))
    refine swp_seq fun K21 hK21 => ?_
    refine swp_region ty_ok ?_
    refine runs_cut 2 fun R22 hR22 => ?_
    try simp (maxSteps := 1000000) [bookV, List.take_succ_cons, List.take_zero, List.drop_succ_cons, List.drop_zero]
    repeat' (first | apply And.intro | intro _)
    any_goals (first | (refine hR22 _ ?_; clear hR22) | (first | omega | (simp only [IntKind.wrap_i64] at *; omega) | (simp_all; done) | (simp_all; omega)))
    refine runs_cut 1 fun R23 hR23 => ?_
    try simp (maxSteps := 1000000) [bookV, List.take_succ_cons, List.take_zero, List.drop_succ_cons, List.drop_zero]
    repeat' (first | apply And.intro | intro _)
    any_goals (first | (refine Or.inr (hR23 _ ?_); clear hR23) | (first | omega | (simp only [IntKind.wrap_i64] at *; omega) | (simp_all; done) | (simp_all; omega)))
    try simp (maxSteps := 1000000) [bookV, List.take_succ_cons, List.take_zero, List.drop_succ_cons, List.drop_zero]
    repeat' (first | apply And.intro | intro _)
    any_goals (first | (refine hK21 _ ?_; clear hK21) | (first | omega | (simp only [IntKind.wrap_i64] at *; omega) | (simp_all; done) | (simp_all; omega)))
    refine swp_seq fun K24 hK24 => ?_
    refine swp_seq fun K25 hK25 => ?_
    refine swp_region ty_ok ?_
    try simp (maxSteps := 1000000) [bookV]
    repeat' (first | apply And.intro | intro _)
    any_goals (first | (refine hK25 _ ?_; clear hK25) | (first | omega | (simp only [IntKind.wrap_i64] at *; omega) | (simp_all; done) | (simp_all; omega)))
    refine swp_block ?_
    refine swp_loop 6 (fun m_ s_ => ∃ (k : Nat), (k ≤ bDim i) ∧ s_ = ⟨[(5, .ptr 0 0 0 1), (6, .sl 3 0 (bDim i) (bDim i)), (10, .ptr 4 0 0 1), (11, .sl 5 0 (bDim i) (bDim i)), (51, .sl 3 0 (bDim i) (bDim i)), (52, .int .i64 (bDim i : Nat)), (53, .int .i64 (k : Nat))], [(0, some ⟨.rows 4 [[.int .i64 (i : Nat), .int .i64 (bPlain i : Nat), .ro (.ints .i64 (bE i)), .ro (.ints .i64 (bR i))]], true, 25⟩), (3, some ⟨.ints .i64 (bVal i e), false, 3⟩), (4, some ⟨.rows 3 [[.ro (.ints .u8 b), .int .i64 (sQ b (bVal i e) (fdP (bPlain i) (bE i) b at_, (0 : Int)) k).1, .int .i64 (sQ b (bVal i e) (fdP (bPlain i) (bE i) b at_, (0 : Int)) k).2]], true, 99⟩), (5, some ⟨.ints .i64 (sV b (bVal i e) (fdP (bPlain i) (bE i) b at_, (0 : Int)) k ++ List.replicate (bDim i - k) 0), false, 3⟩)], 6⟩ ∧ m_ = bDim i - k) _ ⟨[(5, .ptr 0 0 0 1), (6, .sl 3 0 (bDim i) (bDim i)), (10, .ptr 4 0 0 1), (11, .sl 5 0 (bDim i) (bDim i)), (51, .sl 3 0 (bDim i) (bDim i)), (52, .int .i64 (bDim i : Nat)), (53, .int .i64 (0 : Nat))], [(0, some ⟨.rows 4 [[.int .i64 (i : Nat), .int .i64 (bPlain i : Nat), .ro (.ints .i64 (bE i)), .ro (.ints .i64 (bR i))]], true, 25⟩), (3, some ⟨.ints .i64 (bVal i e), false, 3⟩), (4, some ⟨.rows 3 [[.ro (.ints .u8 b), .int .i64 (sQ b (bVal i e) (fdP (bPlain i) (bE i) b at_, (0 : Int)) 0).1, .int .i64 (sQ b (bVal i e) (fdP (bPlain i) (bE i) b at_, (0 : Int)) 0).2]], true, 99⟩), (5, some ⟨.ints .i64 (sV b (bVal i e) (fdP (bPlain i) (bE i) b at_, (0 : Int)) 0 ++ List.replicate (bDim i - 0) 0), false, 3⟩)], 6⟩ ⟨by simp [getT, PV.lo, lo1], by simp [getH, Blk.lo, Cells.lo, lo1, sQ, sV], rfl, by omega⟩ ⟨(0), by (first | omega | (simp only [IntKind.wrap_i64] at *; omega) | (simp_all; done) | (simp_all; omega)), rfl, rfl⟩ ?_
    rintro m_ s_ ⟨k, hL26_0, rfl, rfl⟩ KL26 hL26
    have hkw := wnext (i := k) (by omega)
    refine swp_seq fun K27 hK27 => ?_
    refine swp_region ty_ok ?_
    try simp (maxSteps := 1000000) [bookV]
    repeat' (first | apply And.intro | intro _)
    any_goals (first | (refine hK27 _ ?_; clear hK27) | (first | omega | (simp only [IntKind.wrap_i64] at *; omega) | (simp_all; done) | (simp_all; omega)))
    refine swp_seq fun K28 hK28 => ?_
    refine swp_if fun C29 hC29 => ?_
    try simp (maxSteps := 1000000) [bookV]
    refine hC29 _ (fun hc29 => ?_) (fun hc29 => ?_)
    ·clear hC29
     try simp at hc29
     refine swp_skip ?_
     try simp only [thn, inBlk]
     refine hK28 _ ?_; clear hK28
     refine swp_seq fun K30 hK30 => ?_
     refine swp_block ?_
     refine swp_seq fun K31 hK31 => ?_
     have hkl : k < bDim i := (by have h := hc29; omega)
     have hset := set_rep' (sV_len b (bVal i e) (fdP (bPlain i) (bE i) b at_, (0 : Int)) k) hkl (rN b (sQ b (bVal i e) (fdP (bPlain i) (bE i) b at_, (0 : Int)) k) 1)
     have hsl := sV_len b (bVal i e) (fdP (bPlain i) (bE i) b at_, (0 : Int)) k
     refine swp_region ty_ok ?_
     try simp (maxSteps := 1000000) [bookV]
     repeat' (first | apply And.intro | intro _)
     any_goals (first | (refine hK31 _ ?_; clear hK31) | (first | omega | (simp only [IntKind.wrap_i64] at *; omega) | (simp_all; done) | (simp_all; omega)))
     refine swp_seq fun K32 hK32 => ?_
     refine swp_region ty_ok ?_
     try simp (maxSteps := 1000000) [bookV]
     repeat' (first | apply And.intro | intro _)
     any_goals (first | (refine hK32 _ ?_; clear hK32) | (first | omega | (simp only [IntKind.wrap_i64] at *; omega) | (simp_all; done) | (simp_all; omega)))
     refine swp_if fun C33 hC33 => ?_
     try simp (maxSteps := 1000000) [bookV]
     refine hC33 _ (fun hc33 => ?_) (fun hc33 => ?_)
     ·clear hC33
      try simp at hc33
      obtain ⟨hx1, hx2⟩ := s_nz (b := b) (q := (fdP (bPlain i) (bE i) b at_, (0 : Int))) (k := k) hc33
      refine swp_region ty_ok ?_
      refine runs_cut 3 fun R34 hR34 => ?_
      try simp (maxSteps := 1000000) [bookV, hset, hsl, List.take_succ_cons, List.take_zero, List.drop_succ_cons, List.drop_zero]
      repeat' (first | apply And.intro | intro _)
      any_goals (first | (refine hR34 _ ?_; clear hR34) | (first | omega | (simp only [IntKind.wrap_i64] at *; omega) | (simp_all; done) | (simp_all; omega)))
      refine runs_cut 1 fun R35 hR35 => ?_
      try simp (maxSteps := 1000000) [bookV, hset, hsl, List.take_succ_cons, List.take_zero, List.drop_succ_cons, List.drop_zero]
      refine .inr (hcl_mk (rdr_get 6 b (sQ b (bVal i e) (fdP (bPlain i) (bE i) b at_, (0 : Int)) k) 1 hb hp (sQ_bd hb (bVal i e) hq0 k)) (by simp [PV.ids, id1, getH, Blk.inL, Cells.inL, inL1]) (by simp [PV.inL, inL1]) (by simp) ?_)
      try simp (maxSteps := 1000000) [bookV, hset, hsl]
      repeat' (first | apply And.intro | intro _)
      any_goals (first | (refine hR35 _ ?_; clear hR35) | (first | omega | (simp only [IntKind.wrap_i64] at *; omega) | (simp_all; done) | (simp_all; omega)))
      try simp (maxSteps := 1000000) [bookV, hset, hsl, List.take_succ_cons, List.take_zero, List.drop_succ_cons, List.drop_zero]
      repeat' (first | apply And.intro | intro _)
      any_goals (first | (refine hK30 _ ?_; clear hK30) | (first | omega | (simp only [IntKind.wrap_i64] at *; omega) | (simp_all; done) | (simp_all; omega)))
      refine swp_region ty_ok ?_
      try simp (maxSteps := 1000000) [bookV]
      repeat' apply And.intro
      any_goals (try omega)
      refine hL26 _ ⟨[(5, .ptr 0 0 0 1), (6, .sl 3 0 (bDim i) (bDim i)), (10, .ptr 4 0 0 1), (11, .sl 5 0 (bDim i) (bDim i)), (51, .sl 3 0 (bDim i) (bDim i)), (52, .int .i64 (bDim i : Nat)), (53, .int .i64 ((k + 1) : Nat))], [(0, some ⟨.rows 4 [[.int .i64 (i : Nat), .int .i64 (bPlain i : Nat), .ro (.ints .i64 (bE i)), .ro (.ints .i64 (bR i))]], true, 25⟩), (3, some ⟨.ints .i64 (bVal i e), false, 3⟩), (4, some ⟨.rows 3 [[.ro (.ints .u8 b), .int .i64 (sQ b (bVal i e) (fdP (bPlain i) (bE i) b at_, (0 : Int)) (k + 1)).1, .int .i64 (sQ b (bVal i e) (fdP (bPlain i) (bE i) b at_, (0 : Int)) (k + 1)).2]], true, 99⟩), (5, some ⟨.ints .i64 (sV b (bVal i e) (fdP (bPlain i) (bE i) b at_, (0 : Int)) (k + 1) ++ List.replicate (bDim i - (k + 1)) 0), false, 3⟩)], 6⟩ _ ?_ ⟨(k + 1), by (first | omega | (simp only [IntKind.wrap_i64] at *; omega) | (simp_all; done) | (simp_all; omega)), rfl, rfl⟩ ⟨by simp [getT, PV.lo, lo1, hkw], by (first | (simp [getH, Blk.lo, Cells.lo, lo1, hx1, hx2]; done) | (obtain ⟨hy1, hy2⟩ := s_z (b := b) (vs := (bVal i e)) (q := (fdP (bPlain i) (bE i) b at_, (0 : Int))) hkl (by assumption); simp [getH, Blk.lo, Cells.lo, lo1, hy1, hy2]; done)), rfl, by omega⟩
      omega
     ·clear hC33
      try simp at hc33
      refine swp_skip ?_
      try simp only [thn, inBlk]
      refine hK30 _ ?_; clear hK30
      refine swp_region ty_ok ?_
      try simp (maxSteps := 1000000) [bookV]
      repeat' apply And.intro
      any_goals (try omega)
      refine hL26 _ ⟨[(5, .ptr 0 0 0 1), (6, .sl 3 0 (bDim i) (bDim i)), (10, .ptr 4 0 0 1), (11, .sl 5 0 (bDim i) (bDim i)), (51, .sl 3 0 (bDim i) (bDim i)), (52, .int .i64 (bDim i : Nat)), (53, .int .i64 ((k + 1) : Nat))], [(0, some ⟨.rows 4 [[.int .i64 (i : Nat), .int .i64 (bPlain i : Nat), .ro (.ints .i64 (bE i)), .ro (.ints .i64 (bR i))]], true, 25⟩), (3, some ⟨.ints .i64 (bVal i e), false, 3⟩), (4, some ⟨.rows 3 [[.ro (.ints .u8 b), .int .i64 (sQ b (bVal i e) (fdP (bPlain i) (bE i) b at_, (0 : Int)) (k + 1)).1, .int .i64 (sQ b (bVal i e) (fdP (bPlain i) (bE i) b at_, (0 : Int)) (k + 1)).2]], true, 99⟩), (5, some ⟨.ints .i64 (sV b (bVal i e) (fdP (bPlain i) (bE i) b at_, (0 : Int)) (k + 1) ++ List.replicate (bDim i - (k + 1)) 0), false, 3⟩)], 6⟩ _ ?_ ⟨(k + 1), by (first | omega | (simp only [IntKind.wrap_i64] at *; omega) | (simp_all; done) | (simp_all; omega)), rfl, rfl⟩ ⟨by simp [getT, PV.lo, lo1, hkw], by (first | (simp [getH, Blk.lo, Cells.lo, lo1, hx1, hx2]; done) | (obtain ⟨hy1, hy2⟩ := s_z (b := b) (vs := (bVal i e)) (q := (fdP (bPlain i) (bE i) b at_, (0 : Int))) hkl (by assumption); simp [getH, Blk.lo, Cells.lo, lo1, hy1, hy2]; done)), rfl, by omega⟩
      omega
    ·clear hC29
     try simp at hc29
     refine swp_exit ?_
     simp [thn, inBlk]
     refine hK24 _ ?_; clear hK24
     refine swp_seq fun K36 hK36 => ?_
     refine swp_seq fun K37 hK37 => ?_
     have hke : k = bDim i := (by omega)
     subst hke
     have hre : (sV b (bVal i e) (fdP (bPlain i) (bE i) b at_, (0 : Int)) (bDim i)) ++ List.replicate (bDim i - bDim i) 0 = (sV b (bVal i e) (fdP (bPlain i) (bE i) b at_, (0 : Int)) (bDim i)) := rep_end (Nat.le_refl _)
     refine swp_region ty_ok ?_
     try simp (maxSteps := 1000000) [bookV, hre]
     repeat' (first | apply And.intro | intro _)
     any_goals (first | (refine hK37 _ ?_; clear hK37) | (first | omega | (simp only [IntKind.wrap_i64] at *; omega) | (simp_all; done) | (simp_all; omega)))
     refine swp_block ?_
     refine swp_loop 6 (fun m_ s_ => ∃ (k : Nat), (k ≤ bDim i) ∧ s_ = ⟨[(5, .ptr 0 0 0 1), (6, .sl 3 0 (bDim i) (bDim i)), (10, .ptr 4 0 0 1), (11, .sl 5 0 (bDim i) (bDim i)), (66, .sl 3 0 (bDim i) (bDim i)), (67, .int .i64 (bDim i : Nat)), (68, .int .i64 (k : Nat))], [(0, some ⟨.rows 4 [[.int .i64 (i : Nat), .int .i64 (bPlain i : Nat), .ro (.ints .i64 (bE i)), .ro (.ints .i64 (bR i))]], true, 25⟩), (3, some ⟨.ints .i64 (vV b i (bVal i e) (sV b (bVal i e) (fdP (bPlain i) (bE i) b at_, (0 : Int)) (bDim i)) (sQ b (bVal i e) (fdP (bPlain i) (bE i) b at_, (0 : Int)) (bDim i)) k ++ List.drop k (bVal i e)), false, 3⟩), (4, some ⟨.rows 3 [[.ro (.ints .u8 b), .int .i64 (vQ b i (bVal i e) (sQ b (bVal i e) (fdP (bPlain i) (bE i) b at_, (0 : Int)) (bDim i)) k).1, .int .i64 (vQ b i (bVal i e) (sQ b (bVal i e) (fdP (bPlain i) (bE i) b at_, (0 : Int)) (bDim i)) k).2]], true, 99⟩), (5, some ⟨.ints .i64 (sV b (bVal i e) (fdP (bPlain i) (bE i) b at_, (0 : Int)) (bDim i)), false, 3⟩)], 6⟩ ∧ m_ = bDim i - k) _ ⟨[(5, .ptr 0 0 0 1), (6, .sl 3 0 (bDim i) (bDim i)), (10, .ptr 4 0 0 1), (11, .sl 5 0 (bDim i) (bDim i)), (66, .sl 3 0 (bDim i) (bDim i)), (67, .int .i64 (bDim i : Nat)), (68, .int .i64 (0 : Nat))], [(0, some ⟨.rows 4 [[.int .i64 (i : Nat), .int .i64 (bPlain i : Nat), .ro (.ints .i64 (bE i)), .ro (.ints .i64 (bR i))]], true, 25⟩), (3, some ⟨.ints .i64 (vV b i (bVal i e) (sV b (bVal i e) (fdP (bPlain i) (bE i) b at_, (0 : Int)) (bDim i)) (sQ b (bVal i e) (fdP (bPlain i) (bE i) b at_, (0 : Int)) (bDim i)) 0 ++ List.drop 0 (bVal i e)), false, 3⟩), (4, some ⟨.rows 3 [[.ro (.ints .u8 b), .int .i64 (vQ b i (bVal i e) (sQ b (bVal i e) (fdP (bPlain i) (bE i) b at_, (0 : Int)) (bDim i)) 0).1, .int .i64 (vQ b i (bVal i e) (sQ b (bVal i e) (fdP (bPlain i) (bE i) b at_, (0 : Int)) (bDim i)) 0).2]], true, 99⟩), (5, some ⟨.ints .i64 (sV b (bVal i e) (fdP (bPlain i) (bE i) b at_, (0 : Int)) (bDim i)), false, 3⟩)], 6⟩ ⟨by simp [getT, PV.lo, lo1], by simp [getH, Blk.lo, Cells.lo, lo1, vQ, vV], rfl, by omega⟩ ⟨(0), by (first | omega | (simp only [IntKind.wrap_i64] at *; omega) | (simp_all; done) | (simp_all; omega)), rfl, rfl⟩ ?_
     rintro m_ s_ ⟨k, hL38_0, rfl, rfl⟩ KL38 hL38
     have hkw := wnext (i := k) (by omega)
     refine swp_seq fun K39 hK39 => ?_
     refine swp_region ty_ok ?_
     try simp (maxSteps := 1000000) [bookV]
     repeat' (first | apply And.intro | intro _)
     any_goals (first | (refine hK39 _ ?_; clear hK39) | (first | omega | (simp only [IntKind.wrap_i64] at *; omega) | (simp_all; done) | (simp_all; omega)))
     refine swp_seq fun K40 hK40 => ?_
     refine swp_if fun C41 hC41 => ?_
     try simp (maxSteps := 1000000) [bookV]
     refine hC41 _ (fun hc41 => ?_) (fun hc41 => ?_)
     ·clear hC41
      try simp at hc41
      refine swp_skip ?_
      try simp only [thn, inBlk]
      refine hK40 _ ?_; clear hK40
      refine swp_seq fun K42 hK42 => ?_
      refine swp_block ?_
      refine swp_seq fun K43 hK43 => ?_
      have hkl : k < bDim i := (by have h := hc41; omega)
      have hbu := bVal_u (e := e) h1 h2 hsg hkl
      have hvvl := vV_len b i (bVal i e) (sV b (bVal i e) (fdP (bPlain i) (bE i) b at_, (0 : Int)) (bDim i)) (sQ b (bVal i e) (fdP (bPlain i) (bE i) b at_, (0 : Int)) (bDim i)) k
      have hgd := get_drop (vs := (bVal i e)) hvvl (by omega)
      have hsgl := sV_len b (bVal i e) (fdP (bPlain i) (bE i) b at_, (0 : Int)) (bDim i)
      have hvq := vQ_bd hb i (bVal i e) (sQ_bd hb (bVal i e) hq0 (bDim i)) k
      have hev := eV_bd (nn hp) (vQ b i (bVal i e) (sQ b (bVal i e) (fdP (bPlain i) (bE i) b at_, (0 : Int)) (bDim i)) k)
      have hng1 : IntKind.i64.wrap (-(eV b (vQ b i (bVal i e) (sQ b (bVal i e) (fdP (bPlain i) (bE i) b at_, (0 : Int)) (bDim i)) k))) = -(eV b (vQ b i (bVal i e) (sQ b (bVal i e) (fdP (bPlain i) (bE i) b at_, (0 : Int)) (bDim i)) k)) := w64 (by omega)
      have hng2 : IntKind.i64.wrap (-((bVal i e)[k]?.getD 0)) = -((bVal i e)[k]?.getD 0) := w64 (by omega)
      have hst1 := set_drop' (vs := (bVal i e)) hvvl (by omega) (eV b (vQ b i (bVal i e) (sQ b (bVal i e) (fdP (bPlain i) (bE i) b at_, (0 : Int)) (bDim i)) k))
      have hst2 := set_drop' (vs := (bVal i e)) hvvl (by omega) (-((bVal i e)[k]?.getD 0))
      have hst3 := set_mid (B := List.drop (k + 1) (bVal i e)) hvvl (eV b (vQ b i (bVal i e) (sQ b (bVal i e) (fdP (bPlain i) (bE i) b at_, (0 : Int)) (bDim i)) k)) (-(eV b (vQ b i (bVal i e) (sQ b (bVal i e) (fdP (bPlain i) (bE i) b at_, (0 : Int)) (bDim i)) k)))
      have hgm := get_mid (B := List.drop (k + 1) (bVal i e)) hvvl (eV b (vQ b i (bVal i e) (sQ b (bVal i e) (fdP (bPlain i) (bE i) b at_, (0 : Int)) (bDim i)) k))
      have hlm : ((vV b i (bVal i e) (sV b (bVal i e) (fdP (bPlain i) (bE i) b at_, (0 : Int)) (bDim i)) (sQ b (bVal i e) (fdP (bPlain i) (bE i) b at_, (0 : Int)) (bDim i)) k) ++ (eV b (vQ b i (bVal i e) (sQ b (bVal i e) (fdP (bPlain i) (bE i) b at_, (0 : Int)) (bDim i)) k)) :: List.drop (k + 1) (bVal i e)).length = bDim i := by rw [List.length_append, hvvl, List.length_cons, List.length_drop]; omega
      have hlm2 : ((vV b i (bVal i e) (sV b (bVal i e) (fdP (bPlain i) (bE i) b at_, (0 : Int)) (bDim i)) (sQ b (bVal i e) (fdP (bPlain i) (bE i) b at_, (0 : Int)) (bDim i)) k) ++ List.drop k (bVal i e)).length = bDim i := by rw [List.length_append, hvvl, List.length_drop]; omega
      refine swp_region ty_ok ?_
      try simp (maxSteps := 1000000) [bookV, hgd, hlm2]
      repeat' (first | apply And.intro | intro _)
      any_goals (first | (refine hK43 _ ?_; clear hK43) | (first | omega | (simp only [IntKind.wrap_i64] at *; omega) | (simp_all; done) | (simp_all; omega)))
      refine swp_seq fun K44 hK44 => ?_
      refine swp_seq fun K45 hK45 => ?_
      refine swp_region ty_ok ?_
      try simp (maxSteps := 1000000) [bookV]
      repeat' (first | apply And.intro | intro _)
      any_goals (first | (refine hK45 _ ?_; clear hK45) | (first | omega | (simp only [IntKind.wrap_i64] at *; omega) | (simp_all; done) | (simp_all; omega)))
      refine swp_if fun C46 hC46 => ?_
      try simp (maxSteps := 1000000) [bookV]
      refine hC46 _ (fun hc46 => ?_) (fun hc46 => ?_)
      ·clear hC46
       try simp at hc46
       have hvc : vC i (bVal i e) k := ⟨by have h := hc46; omega, (hc46).2⟩
       refine swp_region ty_ok ?_
       refine runs_cut 3 fun R47 hR47 => ?_
       try simp (maxSteps := 1000000) [bookV, hst1, hlm2, List.take_succ_cons, List.take_zero, List.drop_succ_cons, List.drop_zero]
       repeat' (first | apply And.intro | intro _)
       any_goals (first | (refine hR47 _ ?_; clear hR47) | (first | omega | (simp only [IntKind.wrap_i64] at *; omega) | (simp_all; done) | (simp_all; omega)))
       refine runs_cut 1 fun R48 hR48 => ?_
       try simp (maxSteps := 1000000) [bookV, hst1, hlm2, List.take_succ_cons, List.take_zero, List.drop_succ_cons, List.drop_zero]
       refine .inr (hcl_mk (rdr_esc b (vQ b i (bVal i e) (sQ b (bVal i e) (fdP (bPlain i) (bE i) b at_, (0 : Int)) (bDim i)) k) hb hp hvq) (by simp [PV.ids, id1, getH, Blk.inL, Cells.inL, inL1]) (by simp [PV.inL, inL1]) (by simp) ?_)
       try simp (maxSteps := 1000000) [bookV, hst1, hlm2]
       repeat' (first | apply And.intro | intro _)
       any_goals (first | (refine hR48 _ ?_; clear hR48) | (first | omega | (simp only [IntKind.wrap_i64] at *; omega) | (simp_all; done) | (simp_all; omega)))
       try simp (maxSteps := 1000000) [bookV, hst1, hlm2, List.take_succ_cons, List.take_zero, List.drop_succ_cons, List.drop_zero]
       repeat' (first | apply And.intro | intro _)
       any_goals (first | (refine hK44 _ ?_; clear hK44) | (first | omega | (simp only [IntKind.wrap_i64] at *; omega) | (simp_all; done) | (simp_all; omega)))
       refine swp_seq fun K49 hK49 => ?_
       have hdk := drop_at (vs := (bVal i e)) (k := k) (by omega)
       first | (have hvc2 := hvc) | (have hvn : ¬ vC i (bVal i e) k := fun h => (by assumption : (i : Int) = 11 → ¬ (bVal i e)[k]?.getD 0 = 16) (by rw [h.1]; rfl) h.2) | (have hvn : ¬ vC i (bVal i e) k := fun h => (by assumption : i = 11 → ¬ (bVal i e)[k]?.getD 0 = 16) h.1 h.2)
       refine swp_region ty_ok ?_
       try simp (maxSteps := 1000000) [bookV, hsgl]
       repeat' (first | apply And.intro | intro _)
       any_goals (first | (refine hK49 _ ?_; clear hK49) | (first | omega | (simp only [IntKind.wrap_i64] at *; omega) | (simp_all; done) | (simp_all; omega)))
       refine swp_if fun C50 hC50 => ?_
       try simp (maxSteps := 1000000) [bookV, hsgl]
       refine hC50 _ (fun hc50 => ?_) (fun hc50 => ?_)
       ·clear hC50
        try simp at hc50
        refine swp_region ty_ok ?_
        try simp (maxSteps := 1000000) [bookV, hgd, hgm, hst2, hst3, hng1, hng2, hlm, hlm2]
        repeat' (first | apply And.intro | intro _)
        any_goals (first | (refine hK42 _ ?_; clear hK42) | (first | omega | (simp only [IntKind.wrap_i64] at *; omega) | (simp_all; done) | (simp_all; omega)))
        refine swp_region ty_ok ?_
        try simp (maxSteps := 1000000) [bookV]
        repeat' apply And.intro
        any_goals (try omega)
        refine hL38 _ ⟨[(5, .ptr 0 0 0 1), (6, .sl 3 0 (bDim i) (bDim i)), (10, .ptr 4 0 0 1), (11, .sl 5 0 (bDim i) (bDim i)), (66, .sl 3 0 (bDim i) (bDim i)), (67, .int .i64 (bDim i : Nat)), (68, .int .i64 ((k + 1) : Nat))], [(0, some ⟨.rows 4 [[.int .i64 (i : Nat), .int .i64 (bPlain i : Nat), .ro (.ints .i64 (bE i)), .ro (.ints .i64 (bR i))]], true, 25⟩), (3, some ⟨.ints .i64 (vV b i (bVal i e) (sV b (bVal i e) (fdP (bPlain i) (bE i) b at_, (0 : Int)) (bDim i)) (sQ b (bVal i e) (fdP (bPlain i) (bE i) b at_, (0 : Int)) (bDim i)) (k + 1) ++ List.drop (k + 1) (bVal i e)), false, 3⟩), (4, some ⟨.rows 3 [[.ro (.ints .u8 b), .int .i64 (vQ b i (bVal i e) (sQ b (bVal i e) (fdP (bPlain i) (bE i) b at_, (0 : Int)) (bDim i)) (k + 1)).1, .int .i64 (vQ b i (bVal i e) (sQ b (bVal i e) (fdP (bPlain i) (bE i) b at_, (0 : Int)) (bDim i)) (k + 1)).2]], true, 99⟩), (5, some ⟨.ints .i64 (sV b (bVal i e) (fdP (bPlain i) (bE i) b at_, (0 : Int)) (bDim i)), false, 3⟩)], 6⟩ _ ?_ ⟨(k + 1), by (first | omega | (simp only [IntKind.wrap_i64] at *; omega) | (simp_all; done) | (simp_all; omega)), rfl, rfl⟩ ⟨by simp [getT, PV.lo, lo1, hkw], by (first | (have hq1 : vQ b i (bVal i e) (sQ b (bVal i e) (fdP (bPlain i) (bE i) b at_, (0 : Int)) (bDim i)) (k + 1) = eF b (vQ b i (bVal i e) (sQ b (bVal i e) (fdP (bPlain i) (bE i) b at_, (0 : Int)) (bDim i)) k) := if_pos hvc; (first | (have hb1 := vB_c1 (b := b) (q := (sQ b (bVal i e) (fdP (bPlain i) (bE i) b at_, (0 : Int)) (bDim i))) hvc (by assumption : (sV b (bVal i e) (fdP (bPlain i) (bE i) b at_, (0 : Int)) (bDim i))[k]?.getD 0 = 1); simp [getH, Blk.lo, Cells.lo, lo1, hq1, vV_nx, hb1]; done) | (have hb1 := vB_c0 (b := b) (q := (sQ b (bVal i e) (fdP (bPlain i) (bE i) b at_, (0 : Int)) (bDim i))) hvc (by assumption : ¬ (sV b (bVal i e) (fdP (bPlain i) (bE i) b at_, (0 : Int)) (bDim i))[k]?.getD 0 = 1); simp [getH, Blk.lo, Cells.lo, lo1, hq1, vV_nx, hb1]; done))) | (have hq1 : vQ b i (bVal i e) (sQ b (bVal i e) (fdP (bPlain i) (bE i) b at_, (0 : Int)) (bDim i)) (k + 1) = (vQ b i (bVal i e) (sQ b (bVal i e) (fdP (bPlain i) (bE i) b at_, (0 : Int)) (bDim i)) k) := if_neg hvn; (first | (have hb1 := vB_n1 (b := b) (q := (sQ b (bVal i e) (fdP (bPlain i) (bE i) b at_, (0 : Int)) (bDim i))) hvn (by assumption : (sV b (bVal i e) (fdP (bPlain i) (bE i) b at_, (0 : Int)) (bDim i))[k]?.getD 0 = 1); simp [getH, Blk.lo, Cells.lo, lo1, hq1, vV_nx, hb1]; done) | (have hb1 := vB_n0 (b := b) (q := (sQ b (bVal i e) (fdP (bPlain i) (bE i) b at_, (0 : Int)) (bDim i))) hvn (by assumption : ¬ (sV b (bVal i e) (fdP (bPlain i) (bE i) b at_, (0 : Int)) (bDim i))[k]?.getD 0 = 1); simp [getH, Blk.lo, Cells.lo, lo1, hq1, vV_nx, hb1, hdk]; done)))), rfl, by omega⟩
        omega
       ·clear hC50
        try simp at hc50
        refine swp_skip ?_
        try simp only [thn, inBlk]
        refine hK42 _ ?_; clear hK42
        refine swp_region ty_ok ?_
        try simp (maxSteps := 1000000) [bookV]
        repeat' apply And.intro
        any_goals (try omega)
        refine hL38 _ ⟨[(5, .ptr 0 0 0 1), (6, .sl 3 0 (bDim i) (bDim i)), (10, .ptr 4 0 0 1), (11, .sl 5 0 (bDim i) (bDim i)), (66, .sl 3 0 (bDim i) (bDim i)), (67, .int .i64 (bDim i : Nat)), (68, .int .i64 ((k + 1) : Nat))], [(0, some ⟨.rows 4 [[.int .i64 (i : Nat), .int .i64 (bPlain i : Nat), .ro (.ints .i64 (bE i)), .ro (.ints .i64 (bR i))]], true, 25⟩), (3, some ⟨.ints .i64 (vV b i (bVal i e) (sV b (bVal i e) (fdP (bPlain i) (bE i) b at_, (0 : Int)) (bDim i)) (sQ b (bVal i e) (fdP (bPlain i) (bE i) b at_, (0 : Int)) (bDim i)) (k + 1) ++ List.drop (k + 1) (bVal i e)), false, 3⟩), (4, some ⟨.rows 3 [[.ro (.ints .u8 b), .int .i64 (vQ b i (bVal i e) (sQ b (bVal i e) (fdP (bPlain i) (bE i) b at_, (0 : Int)) (bDim i)) (k + 1)).1, .int .i64 (vQ b i (bVal i e) (sQ b (bVal i e) (fdP (bPlain i) (bE i) b at_, (0 : Int)) (bDim i)) (k + 1)).2]], true, 99⟩), (5, some ⟨.ints .i64 (sV b (bVal i e) (fdP (bPlain i) (bE i) b at_, (0 : Int)) (bDim i)), false, 3⟩)], 6⟩ _ ?_ ⟨(k + 1), by (first | omega | (simp only [IntKind.wrap_i64] at *; omega) | (simp_all; done) | (simp_all; omega)), rfl, rfl⟩ ⟨by simp [getT, PV.lo, lo1, hkw], by (first | (have hq1 : vQ b i (bVal i e) (sQ b (bVal i e) (fdP (bPlain i) (bE i) b at_, (0 : Int)) (bDim i)) (k + 1) = eF b (vQ b i (bVal i e) (sQ b (bVal i e) (fdP (bPlain i) (bE i) b at_, (0 : Int)) (bDim i)) k) := if_pos hvc; (first | (have hb1 := vB_c1 (b := b) (q := (sQ b (bVal i e) (fdP (bPlain i) (bE i) b at_, (0 : Int)) (bDim i))) hvc (by assumption : (sV b (bVal i e) (fdP (bPlain i) (bE i) b at_, (0 : Int)) (bDim i))[k]?.getD 0 = 1); simp [getH, Blk.lo, Cells.lo, lo1, hq1, vV_nx, hb1]; done) | (have hb1 := vB_c0 (b := b) (q := (sQ b (bVal i e) (fdP (bPlain i) (bE i) b at_, (0 : Int)) (bDim i))) hvc (by assumption : ¬ (sV b (bVal i e) (fdP (bPlain i) (bE i) b at_, (0 : Int)) (bDim i))[k]?.getD 0 = 1); simp [getH, Blk.lo, Cells.lo, lo1, hq1, vV_nx, hb1]; done))) | (have hq1 : vQ b i (bVal i e) (sQ b (bVal i e) (fdP (bPlain i) (bE i) b at_, (0 : Int)) (bDim i)) (k + 1) = (vQ b i (bVal i e) (sQ b (bVal i e) (fdP (bPlain i) (bE i) b at_, (0 : Int)) (bDim i)) k) := if_neg hvn; (first | (have hb1 := vB_n1 (b := b) (q := (sQ b (bVal i e) (fdP (bPlain i) (bE i) b at_, (0 : Int)) (bDim i))) hvn (by assumption : (sV b (bVal i e) (fdP (bPlain i) (bE i) b at_, (0 : Int)) (bDim i))[k]?.getD 0 = 1); simp [getH, Blk.lo, Cells.lo, lo1, hq1, vV_nx, hb1]; done) | (have hb1 := vB_n0 (b := b) (q := (sQ b (bVal i e) (fdP (bPlain i) (bE i) b at_, (0 : Int)) (bDim i))) hvn (by assumption : ¬ (sV b (bVal i e) (fdP (bPlain i) (bE i) b at_, (0 : Int)) (bDim i))[k]?.getD 0 = 1); simp [getH, Blk.lo, Cells.lo, lo1, hq1, vV_nx, hb1, hdk]; done)))), rfl, by omega⟩
        omega
      ·clear hC46
       try simp at hc46
       refine swp_skip ?_
       try simp only [thn, inBlk]
       refine hK44 _ ?_; clear hK44
       refine swp_seq fun K51 hK51 => ?_
       have hdk := drop_at (vs := (bVal i e)) (k := k) (by omega)
       first | (have hvc2 := hvc) | (have hvn : ¬ vC i (bVal i e) k := fun h => (by assumption : (i : Int) = 11 → ¬ (bVal i e)[k]?.getD 0 = 16) (by rw [h.1]; rfl) h.2) | (have hvn : ¬ vC i (bVal i e) k := fun h => (by assumption : i = 11 → ¬ (bVal i e)[k]?.getD 0 = 16) h.1 h.2)
       refine swp_region ty_ok ?_
       try simp (maxSteps := 1000000) [bookV, hsgl]
       repeat' (first | apply And.intro | intro _)
       any_goals (first | (refine hK51 _ ?_; clear hK51) | (first | omega | (simp only [IntKind.wrap_i64] at *; omega) | (simp_all; done) | (simp_all; omega)))
       refine swp_if fun C52 hC52 => ?_
       try simp (maxSteps := 1000000) [bookV, hsgl]
       refine hC52 _ (fun hc52 => ?_) (fun hc52 => ?_)
       ·clear hC52
        try simp at hc52
        refine swp_region ty_ok ?_
        try simp (maxSteps := 1000000) [bookV, hgd, hgm, hst2, hst3, hng1, hng2, hlm, hlm2]
        repeat' (first | apply And.intro | intro _)
        any_goals (first | (refine hK42 _ ?_; clear hK42) | (first | omega | (simp only [IntKind.wrap_i64] at *; omega) | (simp_all; done) | (simp_all; omega)))
        refine swp_region ty_ok ?_
        try simp (maxSteps := 1000000) [bookV]
        repeat' apply And.intro
        any_goals (try omega)
        refine hL38 _ ⟨[(5, .ptr 0 0 0 1), (6, .sl 3 0 (bDim i) (bDim i)), (10, .ptr 4 0 0 1), (11, .sl 5 0 (bDim i) (bDim i)), (66, .sl 3 0 (bDim i) (bDim i)), (67, .int .i64 (bDim i : Nat)), (68, .int .i64 ((k + 1) : Nat))], [(0, some ⟨.rows 4 [[.int .i64 (i : Nat), .int .i64 (bPlain i : Nat), .ro (.ints .i64 (bE i)), .ro (.ints .i64 (bR i))]], true, 25⟩), (3, some ⟨.ints .i64 (vV b i (bVal i e) (sV b (bVal i e) (fdP (bPlain i) (bE i) b at_, (0 : Int)) (bDim i)) (sQ b (bVal i e) (fdP (bPlain i) (bE i) b at_, (0 : Int)) (bDim i)) (k + 1) ++ List.drop (k + 1) (bVal i e)), false, 3⟩), (4, some ⟨.rows 3 [[.ro (.ints .u8 b), .int .i64 (vQ b i (bVal i e) (sQ b (bVal i e) (fdP (bPlain i) (bE i) b at_, (0 : Int)) (bDim i)) (k + 1)).1, .int .i64 (vQ b i (bVal i e) (sQ b (bVal i e) (fdP (bPlain i) (bE i) b at_, (0 : Int)) (bDim i)) (k + 1)).2]], true, 99⟩), (5, some ⟨.ints .i64 (sV b (bVal i e) (fdP (bPlain i) (bE i) b at_, (0 : Int)) (bDim i)), false, 3⟩)], 6⟩ _ ?_ ⟨(k + 1), by (first | omega | (simp only [IntKind.wrap_i64] at *; omega) | (simp_all; done) | (simp_all; omega)), rfl, rfl⟩ ⟨by simp [getT, PV.lo, lo1, hkw], by (first | (have hq1 : vQ b i (bVal i e) (sQ b (bVal i e) (fdP (bPlain i) (bE i) b at_, (0 : Int)) (bDim i)) (k + 1) = eF b (vQ b i (bVal i e) (sQ b (bVal i e) (fdP (bPlain i) (bE i) b at_, (0 : Int)) (bDim i)) k) := if_pos hvc; (first | (have hb1 := vB_c1 (b := b) (q := (sQ b (bVal i e) (fdP (bPlain i) (bE i) b at_, (0 : Int)) (bDim i))) hvc (by assumption : (sV b (bVal i e) (fdP (bPlain i) (bE i) b at_, (0 : Int)) (bDim i))[k]?.getD 0 = 1); simp [getH, Blk.lo, Cells.lo, lo1, hq1, vV_nx, hb1]; done) | (have hb1 := vB_c0 (b := b) (q := (sQ b (bVal i e) (fdP (bPlain i) (bE i) b at_, (0 : Int)) (bDim i))) hvc (by assumption : ¬ (sV b (bVal i e) (fdP (bPlain i) (bE i) b at_, (0 : Int)) (bDim i))[k]?.getD 0 = 1); simp [getH, Blk.lo, Cells.lo, lo1, hq1, vV_nx, hb1]; done))) | (have hq1 : vQ b i (bVal i e) (sQ b (bVal i e) (fdP (bPlain i) (bE i) b at_, (0 : Int)) (bDim i)) (k + 1) = (vQ b i (bVal i e) (sQ b (bVal i e) (fdP (bPlain i) (bE i) b at_, (0 : Int)) (bDim i)) k) := if_neg hvn; (first | (have hb1 := vB_n1 (b := b) (q := (sQ b (bVal i e) (fdP (bPlain i) (bE i) b at_, (0 : Int)) (bDim i))) hvn (by assumption : (sV b (bVal i e) (fdP (bPlain i) (bE i) b at_, (0 : Int)) (bDim i))[k]?.getD 0 = 1); simp [getH, Blk.lo, Cells.lo, lo1, hq1, vV_nx, hb1]; done) | (have hb1 := vB_n0 (b := b) (q := (sQ b (bVal i e) (fdP (bPlain i) (bE i) b at_, (0 : Int)) (bDim i))) hvn (by assumption : ¬ (sV b (bVal i e) (fdP (bPlain i) (bE i) b at_, (0 : Int)) (bDim i))[k]?.getD 0 = 1); simp [getH, Blk.lo, Cells.lo, lo1, hq1, vV_nx, hb1, hdk]; done)))), rfl, by omega⟩
        omega
       ·clear hC52
        try simp at hc52
        refine swp_skip ?_
        try simp only [thn, inBlk]
        refine hK42 _ ?_; clear hK42
        refine swp_region ty_ok ?_
        try simp (maxSteps := 1000000) [bookV]
        repeat' apply And.intro
        any_goals (try omega)
        refine hL38 _ ⟨[(5, .ptr 0 0 0 1), (6, .sl 3 0 (bDim i) (bDim i)), (10, .ptr 4 0 0 1), (11, .sl 5 0 (bDim i) (bDim i)), (66, .sl 3 0 (bDim i) (bDim i)), (67, .int .i64 (bDim i : Nat)), (68, .int .i64 ((k + 1) : Nat))], [(0, some ⟨.rows 4 [[.int .i64 (i : Nat), .int .i64 (bPlain i : Nat), .ro (.ints .i64 (bE i)), .ro (.ints .i64 (bR i))]], true, 25⟩), (3, some ⟨.ints .i64 (vV b i (bVal i e) (sV b (bVal i e) (fdP (bPlain i) (bE i) b at_, (0 : Int)) (bDim i)) (sQ b (bVal i e) (fdP (bPlain i) (bE i) b at_, (0 : Int)) (bDim i)) (k + 1) ++ List.drop (k + 1) (bVal i e)), false, 3⟩), (4, some ⟨.rows 3 [[.ro (.ints .u8 b), .int .i64 (vQ b i (bVal i e) (sQ b (bVal i e) (fdP (bPlain i) (bE i) b at_, (0 : Int)) (bDim i)) (k + 1)).1, .int .i64 (vQ b i (bVal i e) (sQ b (bVal i e) (fdP (bPlain i) (bE i) b at_, (0 : Int)) (bDim i)) (k + 1)).2]], true, 99⟩), (5, some ⟨.ints .i64 (sV b (bVal i e) (fdP (bPlain i) (bE i) b at_, (0 : Int)) (bDim i)), false, 3⟩)], 6⟩ _ ?_ ⟨(k + 1), by (first | omega | (simp only [IntKind.wrap_i64] at *; omega) | (simp_all; done) | (simp_all; omega)), rfl, rfl⟩ ⟨by simp [getT, PV.lo, lo1, hkw], by (first | (have hq1 : vQ b i (bVal i e) (sQ b (bVal i e) (fdP (bPlain i) (bE i) b at_, (0 : Int)) (bDim i)) (k + 1) = eF b (vQ b i (bVal i e) (sQ b (bVal i e) (fdP (bPlain i) (bE i) b at_, (0 : Int)) (bDim i)) k) := if_pos hvc; (first | (have hb1 := vB_c1 (b := b) (q := (sQ b (bVal i e) (fdP (bPlain i) (bE i) b at_, (0 : Int)) (bDim i))) hvc (by assumption : (sV b (bVal i e) (fdP (bPlain i) (bE i) b at_, (0 : Int)) (bDim i))[k]?.getD 0 = 1); simp [getH, Blk.lo, Cells.lo, lo1, hq1, vV_nx, hb1]; done) | (have hb1 := vB_c0 (b := b) (q := (sQ b (bVal i e) (fdP (bPlain i) (bE i) b at_, (0 : Int)) (bDim i))) hvc (by assumption : ¬ (sV b (bVal i e) (fdP (bPlain i) (bE i) b at_, (0 : Int)) (bDim i))[k]?.getD 0 = 1); simp [getH, Blk.lo, Cells.lo, lo1, hq1, vV_nx, hb1]; done))) | (have hq1 : vQ b i (bVal i e) (sQ b (bVal i e) (fdP (bPlain i) (bE i) b at_, (0 : Int)) (bDim i)) (k + 1) = (vQ b i (bVal i e) (sQ b (bVal i e) (fdP (bPlain i) (bE i) b at_, (0 : Int)) (bDim i)) k) := if_neg hvn; (first | (have hb1 := vB_n1 (b := b) (q := (sQ b (bVal i e) (fdP (bPlain i) (bE i) b at_, (0 : Int)) (bDim i))) hvn (by assumption : (sV b (bVal i e) (fdP (bPlain i) (bE i) b at_, (0 : Int)) (bDim i))[k]?.getD 0 = 1); simp [getH, Blk.lo, Cells.lo, lo1, hq1, vV_nx, hb1]; done) | (have hb1 := vB_n0 (b := b) (q := (sQ b (bVal i e) (fdP (bPlain i) (bE i) b at_, (0 : Int)) (bDim i))) hvn (by assumption : ¬ (sV b (bVal i e) (fdP (bPlain i) (bE i) b at_, (0 : Int)) (bDim i))[k]?.getD 0 = 1); simp [getH, Blk.lo, Cells.lo, lo1, hq1, vV_nx, hb1, hdk]; done)))), rfl, by omega⟩
        omega
     ·clear hC41
      try simp at hc41
      refine swp_exit ?_
      simp [thn, inBlk]
      refine hK36 _ ?_; clear hK36
      refine swp_seq fun K53 hK53 => ?_
      refine swp_seq fun K54 hK54 => ?_
      refine swp_region ty_ok ?_
      try simp (maxSteps := 1000000) [bookV]
      repeat' (first | apply And.intro | intro _)
      any_goals (first | (refine hK54 _ ?_; clear hK54) | (first | omega | (simp only [IntKind.wrap_i64] at *; omega) | (simp_all; done) | (simp_all; omega)))
      refine swp_if fun C55 hC55 => ?_
      try simp (maxSteps := 1000000) [bookV]
      refine hC55 _ (fun hc55 => ?_) (fun hc55 => ?_)
      ·clear hC55
       try simp at hc55
       refine swp_seq fun K56 hK56 => ?_
       refine swp_draw ty_ok mixed (ms := [0, 1, 3, 7, 0, 16, 63]) (by kernel_rfl) ?_
       try simp (maxSteps := 1000000) [bookV]
       repeat' (first | apply And.intro | intro _)
       any_goals (first | kernel_rfl | (refine hK56 _ ?_; clear hK56) | (first | omega | (simp only [IntKind.wrap_i64] at *; omega) | (simp_all; done) | (simp_all; omega)))
       refine swp_ret ?_
       simp [fnPost, Try.results17, resP, tupOf]
       have hke2 : k = bDim i := (by omega)
       subst hke2
       obtain ⟨f1, f2⟩ := hgQ_eq hvs hvl
       have h9 := hc55
       rw [← f1] at h9 ⊢
       exact hg_e hf0 hsg h9
      ·clear hC55
       try simp at hc55
       refine swp_skip ?_
       try simp only [thn, inBlk]
       refine hK53 _ ?_; clear hK53
       refine swp_seq fun K58 hK58 => ?_
       refine swp_draw ty_ok mixed (ms := [0, 0, 2, 6, 14, 1, 63, 127]) (by kernel_rfl) ?_
       try simp (maxSteps := 1000000) [bookV]
       repeat' (first | apply And.intro | intro _)
       any_goals (first | kernel_rfl | (refine hK58 _ ?_; clear hK58) | (first | omega | (simp only [IntKind.wrap_i64] at *; omega) | (simp_all; done) | (simp_all; omega)))
       refine swp_ret ?_
       simp [fnPost, Try.results17, resP, tupOf]
       have hke2 : k = bDim i := (by omega)
       subst hke2
       obtain ⟨f1, f2⟩ := hgQ_eq hvs hvl
       have h9 := hc55
       rw [← f1] at h9 ⊢
       rw [← f2]
       obtain ⟨e1, e2, e3⟩ := hg_w hf0 hsg h9
       rw [e1, e2, e3, List.drop_eq_nil_of_le (by omega), List.append_nil, f2, vV_len]
       exact ⟨by omega, rfl, rfl, rfl⟩

end Go.Proofs.Ytgheplondkoedaa

