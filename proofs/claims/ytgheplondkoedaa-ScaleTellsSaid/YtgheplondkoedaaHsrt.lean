import Derived.Test.YtgheplondkoedaaWf
import Derived.Test.YtgheplondkoedaaTyh
import Derived.Test.YtgheplondkoedaaBsp
namespace Go.Proofs.Ytgheplondkoedaa
set_option linter.unusedVariables false
set_option linter.unusedSimpArgs false
set_option maxRecDepth 10000
open Go Go.Pv

theorem mixed : Try.prog.follows .mixedOrders = true := by kernel_rfl
structure Cm (fz : Int → Int) (zs : List Int) : Prop where
 pur : (Cells.rows 289 [zs.map (PV.int .u8)]).pur = true
 call : ∀ x y : Int, 0 ≤ x ∧ x < 289 → 0 ≤ y ∧ y < 289 → PCall Try.prog 73 [.int .i64 x, .int .i64 y, .rop (.rows 289 [zs.map (PV.int .u8)]) 0 0] (.int .i64 (cmI fz x y))

attribute [local simp] runs gd step1 need evu un opnds opv ev cst cst1 cstL getT getH putT onL nxt argT cellsOf PV.one thn inBlk jmp fldP ldP ldC live Cells.len Cells.get Cells.w sug ldv bin eqF eq1 ops2 sh2 binv Tk.agg stC apC rdS apS cpC cpS mvL zp argsP idx fillP toInts chunks mkC ixS ixA oidx slP sl0 slA optL List.append mxF bltn frzA frz frzL frz1 pur1 Cells.pur PV.scal scal1 runD rdO PV.ids id1 zids ety Eff.on cnd minb and1b ifmax ifmin mxv sugI strv w0 w1 w2 wm1
set_option maxHeartbeats 4000000 in
theorem swapR_ok (N : Nat) (hN : N ≤ 289) (fz : Int → Int) (zs : List Int) (hC : Cm fz zs) (d : List Int) (hd : Dok N d) (a b n : Nat) (ha : a + n ≤ N) (hb : b + n ≤ N) : HCall Try.prog 126 [.sl 42 0 N N, .int .i64 (a : Nat), .int .i64 (b : Nat), .int .i64 (n : Nat), .fn 73 [.ptr 98 0 0 1]] [(42, some ⟨.ints .i64 d, false, 3⟩), (98, some ⟨.rows 289 [zs.map (PV.int .u8)], true, 118⟩)] 99 (.tup []) [(42, some ⟨.ints .i64 (swR a b n 0 d), false, 3⟩)] := by
 have hlen := hd.len
 have hpur := hC.pur
 refine hcall_body ty_ok Try.func126 rfl (by rfl) (by simp) ?_
 rw [Try.ntmps126]
 refine swp_seq fun K1 hK1 => ?_
 refine swp_region ty_ok ?_
 try simp (maxSteps := 1000000) [tn2, tn3, tn1, tnh]
 repeat' (first | apply And.intro | intro _)
 any_goals (first | (refine hK1 _ ?_; clear hK1) | omega | (simp_all <;> omega))
 refine swp_block ?_
 refine swp_loop 99 (fun m_ s_ => ∃ (c : Nat) (i : Nat) (e : List Int), (c + i = n) ∧ (Dok N e) ∧ (swR a b c i e = swR a b n 0 d) ∧ s_ = ⟨[(0, .sl 42 0 N N), (1, .int .i64 (a : Nat)), (2, .int .i64 (b : Nat)), (3, .int .i64 (n : Nat)), (4, .fn 73 [.ptr 98 0 0 1]), (10, .int .i64 (i : Nat))], [(42, some ⟨.ints .i64 e, false, 3⟩), (98, some ⟨.rows 289 [zs.map (PV.int .u8)], true, 118⟩)], 99⟩ ∧ m_ = c + 1) _ ⟨[(0, .sl 42 0 N N), (1, .int .i64 (a : Nat)), (2, .int .i64 (b : Nat)), (3, .int .i64 (n : Nat)), (4, .fn 73 [.ptr 98 0 0 1]), (10, .int .i64 (0 : Nat))], [(42, some ⟨.ints .i64 d, false, 3⟩), (98, some ⟨.rows 289 [zs.map (PV.int .u8)], true, 118⟩)], 99⟩ ⟨by simp [getT, PV.lo, lo1], by simp [getH, Blk.lo, Cells.lo, lo1], rfl, by omega⟩ ⟨(n), (0), (d), by omega, by exact hd, by rfl, rfl, rfl⟩ ?_
 rintro m_ s_ ⟨c, i, e, hL2_0, hL2_1, hL2_2, rfl, rfl⟩ KL2 hL2
 have hiw := wnext (i := i) (by omega)
 have hq := (by assumption : Dok N e)
 have hR := (by assumption : swR a b c i e = swR a b n 0 d)
 refine swp_seq fun K3 hK3 => ?_
 refine swp_seq fun K4 hK4 => ?_
 refine swp_region ty_ok ?_
 try simp (maxSteps := 1000000) [tn2, tn3, tn1, tnh]
 repeat' (first | apply And.intro | intro _)
 any_goals (first | (refine hK4 _ ?_; clear hK4) | omega | (simp_all <;> omega))
 refine swp_if fun C5 hC5 => ?_
 try simp (maxSteps := 1000000) [tn2, tn3, tn1, tnh]
 refine hC5 _ (fun hc5 => ?_) (fun hc5 => ?_)
 ·clear hC5
  try simp at hc5
  refine swp_skip ?_
  try simp only [thn, inBlk]
  refine hK3 _ ?_; clear hK3
  refine swp_seq fun K6 hK6 => ?_
  refine swp_block ?_
  have hai := wadd (a := a) (b := i) (by omega)
  have hbi := wadd (a := b) (b := i) (by omega)
  have hqe := hq.len
  refine swp_draw ty_ok mixed (ms := [0, 0, 0, 6, 0, 0, 0, 96, 0, 0, 0, 1536, 3840, 7936, 0, 0, 0, 98304, 245760, 507904, 1048335, 2096911, 4194303, 8388607]) (by kernel_rfl) ?_
  refine runD_cut 12 fun R7 hR7 => ?_
  try simp (maxSteps := 1000000) [tn2, tn3, tn1, tnh, hai, hbi, hqe, List.take_succ_cons, List.take_zero, List.drop_succ_cons, List.drop_zero]
  repeat' (first | apply And.intro | intro _)
  any_goals (first | (refine hR7 _ _ _ _ ?_; clear hR7) | omega | (simp_all <;> omega))
  try simp (maxSteps := 1000000) [tn2, tn3, tn1, tnh, hai, hbi, hqe, List.take_succ_cons, List.take_zero, List.drop_succ_cons, List.drop_zero]
  repeat' (first | apply And.intro | intro _)
  any_goals (first | kernel_rfl | (refine hK6 _ ?_; clear hK6) | omega | (simp_all <;> omega))
  refine swp_region ty_ok ?_
  try simp (maxSteps := 1000000) [tn2, tn3, tn1, tnh]
  repeat' apply And.intro
  any_goals (try omega)
  refine hL2 _ ⟨[(0, .sl 42 0 N N), (1, .int .i64 (a : Nat)), (2, .int .i64 (b : Nat)), (3, .int .i64 (n : Nat)), (4, .fn 73 [.ptr 98 0 0 1]), (10, .int .i64 ((i + 1) : Nat))], [(42, some ⟨.ints .i64 (sw e (a + i) (b + i)), false, 3⟩), (98, some ⟨.rows 289 [zs.map (PV.int .u8)], true, 118⟩)], 99⟩ _ ?_ ⟨(c - 1), (i + 1), (sw e (a + i) (b + i)), by omega, by exact sw_ok hq _ _, by exact (swR_step (by omega)).symm.trans hR, rfl, rfl⟩ ⟨by simp [getT, PV.lo, lo1, hiw], by simp [getH, Blk.lo, Cells.lo, lo1, sw], rfl, by omega⟩
  omega
 ·clear hC5
  try simp at hc5
  refine swp_exit ?_
  simp [thn, inBlk]
  simp [fnPostH, PV.inR, inR1, PV.inL, inL1, Blk.inL, Cells.inL, put_at, Try.results126, resP, tupOf]
  (have hc0 : c = 0 := (by omega)); subst hc0; exact hR

set_option maxHeartbeats 4000000 in
theorem ins_ok (N : Nat) (hN : N ≤ 289) (fz : Int → Int) (zs : List Int) (hC : Cm fz zs) (d : List Int) (hd : Dok N d) (a b : Nat) (ha : a ≤ N) (hb : b ≤ N) : HCall Try.prog 120 [.sl 42 0 N N, .int .i64 (a : Nat), .int .i64 (b : Nat), .fn 73 [.ptr 98 0 0 1]] [(42, some ⟨.ints .i64 d, false, 3⟩), (98, some ⟨.rows 289 [zs.map (PV.int .u8)], true, 118⟩)] 99 (.tup []) [(42, some ⟨.ints .i64 (ins fz a b d), false, 3⟩)] := by
 have hlen := hd.len
 have hpur := hC.pur
 have haw := wnext (i := a) (by omega)
 refine hcall_body ty_ok Try.func120 rfl (by rfl) (by simp) ?_
 rw [Try.ntmps120]
 refine swp_seq fun K1 hK1 => ?_
 refine swp_region ty_ok ?_
 try simp (maxSteps := 1000000) [tn2, tn3, tn1, tnh, tnp, cmI_lt, haw]
 repeat' (first | apply And.intro | intro _)
 any_goals (first | (refine hK1 _ ?_; clear hK1) | omega | (simp_all <;> omega))
 refine swp_block ?_
 refine swp_loop 99 (fun m_ s_ => ∃ (i : Nat) (e : List Int), (a + 1 ≤ i) ∧ (i ≤ b ∨ i = a + 1) ∧ (Dok N e) ∧ (insR fz a (b - i) i e = ins fz a b d) ∧ s_ = ⟨[(0, .sl 42 0 N N), (1, .int .i64 (a : Nat)), (2, .int .i64 (b : Nat)), (3, .fn 73 [.ptr 98 0 0 1]), (8, .int .i64 (i : Nat))], [(42, some ⟨.ints .i64 e, false, 3⟩), (98, some ⟨.rows 289 [zs.map (PV.int .u8)], true, 118⟩)], 99⟩ ∧ m_ = b + 1 - i) _ ⟨[(0, .sl 42 0 N N), (1, .int .i64 (a : Nat)), (2, .int .i64 (b : Nat)), (3, .fn 73 [.ptr 98 0 0 1]), (8, .int .i64 ((a + 1) : Nat))], [(42, some ⟨.ints .i64 d, false, 3⟩), (98, some ⟨.rows 289 [zs.map (PV.int .u8)], true, 118⟩)], 99⟩ ⟨by simp [getT, PV.lo, lo1], by simp [getH, Blk.lo, Cells.lo, lo1], rfl, by omega⟩ ⟨(a + 1), (d), by omega, by omega, by exact hd, by rfl, rfl, rfl⟩ ?_
 rintro m_ s_ ⟨i, e, hL2_0, hL2_1, hL2_2, hL2_3, rfl, rfl⟩ KL2 hL2
 have hiw := wnext (i := i) (by omega)
 have hq := (by assumption : Dok N e)
 have hR := (by assumption : insR fz a (b - i) i e = ins fz a b d)
 refine swp_seq fun K3 hK3 => ?_
 refine swp_seq fun K4 hK4 => ?_
 refine swp_region ty_ok ?_
 try simp (maxSteps := 1000000) [tn2, tn3, tn1, tnh, tnp, cmI_lt]
 repeat' (first | apply And.intro | intro _)
 any_goals (first | (refine hK4 _ ?_; clear hK4) | omega | (simp_all <;> omega))
 refine swp_if fun C5 hC5 => ?_
 try simp (maxSteps := 1000000) [tn2, tn3, tn1, tnh, tnp, cmI_lt]
 refine hC5 _ (fun hc5 => ?_) (fun hc5 => ?_)
 ·clear hC5
  try simp at hc5
  refine swp_skip ?_
  try simp only [thn, inBlk]
  refine hK3 _ ?_; clear hK3
  refine swp_seq fun K6 hK6 => ?_
  refine swp_block ?_
  refine swp_seq fun K7 hK7 => ?_
  refine swp_region ty_ok ?_
  try simp (maxSteps := 1000000) [tn2, tn3, tn1, tnh, tnp, cmI_lt]
  repeat' (first | apply And.intro | intro _)
  any_goals (first | (refine hK7 _ ?_; clear hK7) | omega | (simp_all <;> omega))
  refine swp_block ?_
  refine swp_loop 99 (fun m_ s_ => ∃ (j : Nat) (q : List Int), (j ≤ i) ∧ (Dok N q) ∧ (insJ fz a j q = insJ fz a i e) ∧ s_ = ⟨[(0, .sl 42 0 N N), (1, .int .i64 (a : Nat)), (2, .int .i64 (b : Nat)), (3, .fn 73 [.ptr 98 0 0 1]), (8, .int .i64 (i : Nat)), (9, .int .i64 (j : Nat))], [(42, some ⟨.ints .i64 q, false, 3⟩), (98, some ⟨.rows 289 [zs.map (PV.int .u8)], true, 118⟩)], 99⟩ ∧ m_ = j + 1) _ ⟨[(0, .sl 42 0 N N), (1, .int .i64 (a : Nat)), (2, .int .i64 (b : Nat)), (3, .fn 73 [.ptr 98 0 0 1]), (8, .int .i64 (i : Nat)), (9, .int .i64 (i : Nat))], [(42, some ⟨.ints .i64 e, false, 3⟩), (98, some ⟨.rows 289 [zs.map (PV.int .u8)], true, 118⟩)], 99⟩ ⟨by simp [getT, PV.lo, lo1], by simp [getH, Blk.lo, Cells.lo, lo1], rfl, by omega⟩ ⟨(i), (e), by omega, by exact hq, by rfl, rfl, rfl⟩ ?_
  rintro m_ s_ ⟨j, q, hL8_0, hL8_1, hL8_2, rfl, rfl⟩ KL8 hL8
  have hq2 := (by assumption : Dok N q)
  have hJ := (by assumption : insJ fz a j q = insJ fz a i e)
  refine swp_seq fun K9 hK9 => ?_
  refine swp_seq fun K10 hK10 => ?_
  have hle := hq2.len
  have hx1 := hq2.el j
  have hx2 := hq2.el (j - 1)
  have hjw0 := wpr (a := j) (by omega)
  refine swp_draw ty_ok mixed (ms := [0, 0, 3, 7, 15, 15, 15, 111, 239, 15, 15, 1039, 3599, 7695, 16383, 32767, 65535]) (by kernel_rfl) ?_
  refine runD_cut 7 fun R11 hR11 => ?_
  try simp (maxSteps := 1000000) [tn2, tn3, tn1, tnh, tnp, cmI_lt, hle, hjw0, List.take_succ_cons, List.take_zero, List.drop_succ_cons, List.drop_zero]
  repeat' (first | apply And.intro | intro _)
  any_goals (first | (refine hR11 _ _ _ _ ?_; clear hR11) | omega | (simp_all <;> omega))
  refine runD_cut 7 fun R12 hR12 => ?_
  try simp (maxSteps := 1000000) [tn2, tn3, tn1, tnh, tnp, cmI_lt, hle, hjw0, List.take_succ_cons, List.take_zero, List.drop_succ_cons, List.drop_zero]
  repeat' (first | apply And.intro | intro _)
  any_goals (first | (refine hR12 _ _ _ _ ?_; clear hR12) | omega | (simp_all <;> omega))
  refine runD_cut 1 fun R13 hR13 => ?_
  try simp (maxSteps := 1000000) [tn2, tn3, tn1, tnh, tnp, cmI_lt, hle, hjw0, List.take_succ_cons, List.take_zero, List.drop_succ_cons, List.drop_zero]
  first | refine .inl ⟨_, fun hb => .inl ⟨hC.call _ _ hx1 hx2, rfl⟩, ?_⟩ | refine .inl ⟨_, .inl ⟨hC.call _ _ hx1 hx2, rfl⟩, ?_⟩ | refine .inl ⟨_, fun hb => .inl (hC.call _ _ hx1 hx2), ?_⟩ | refine .inl ⟨_, .inl (hC.call _ _ hx1 hx2), ?_⟩ | refine .inl ⟨_, by (intros; exact Or.inl (hC.call _ _ hx1 hx2)), ?_⟩ | refine .inl ⟨_, by (intros; exact Or.inl ⟨hC.call _ _ hx1 hx2, rfl⟩), ?_⟩ | refine .inl ⟨_, fun hb => .inl ⟨_, hC.call _ _ hx1 hx2, by (try simp); exact ⟨rfl, rfl⟩⟩, ?_⟩ | refine ⟨_, fun hb => .inl ⟨hC.call _ _ hx1 hx2, rfl⟩, ?_⟩ | refine ⟨_, .inl ⟨hC.call _ _ hx1 hx2, rfl⟩, ?_⟩ | refine ⟨_, fun hb => .inl (hC.call _ _ hx1 hx2), ?_⟩ | refine ⟨_, .inl (hC.call _ _ hx1 hx2), ?_⟩ | refine ⟨_, by (intros; exact Or.inl (hC.call _ _ hx1 hx2)), ?_⟩ | refine ⟨_, by (intros; exact Or.inl ⟨hC.call _ _ hx1 hx2, rfl⟩), ?_⟩ | refine ⟨_, fun hb => .inl ⟨_, hC.call _ _ hx1 hx2, by (try simp); exact ⟨rfl, rfl⟩⟩, ?_⟩
  repeat' (first | apply And.intro | intro _)
  any_goals (first | (refine hR13 _ _ _ _ ?_; clear hR13) | omega | (simp_all <;> omega))
  try simp (maxSteps := 1000000) [tn2, tn3, tn1, tnh, tnp, cmI_lt, hle, hjw0, List.take_succ_cons, List.take_zero, List.drop_succ_cons, List.drop_zero]
  repeat' (first | apply And.intro | intro _)
  any_goals (first | kernel_rfl | (refine hK10 _ ?_; clear hK10) | omega | (simp_all <;> omega))
  refine swp_if fun C15 hC15 => ?_
  try simp (maxSteps := 1000000) [tn2, tn3, tn1, tnh, tnp, cmI_lt, hle, hjw0]
  refine hC15 _ (fun hc15 => ?_) (fun hc15 => ?_)
  ·clear hC15
   try simp at hc15
   refine swp_skip ?_
   try simp only [thn, inBlk]
   refine hK9 _ ?_; clear hK9
   refine swp_seq fun K16 hK16 => ?_
   refine swp_block ?_
   have hjp : 1 ≤ j := (by have h := hc15; omega)
   have hjw := wpred (a := j) hjp (by omega)
   have hjw0 := wpr (a := j) (by omega)
   refine swp_draw ty_ok mixed (ms := [0, 0, 0, 0, 8, 0, 0, 64, 224, 480, 0, 0, 3072, 7168, 16355, 32739, 65535, 131071]) (by kernel_rfl) ?_
   refine runD_cut 9 fun R17 hR17 => ?_
   try simp (maxSteps := 1000000) [tn2, tn3, tn1, tnh, tnp, cmI_lt, hjw0, hle, List.take_succ_cons, List.take_zero, List.drop_succ_cons, List.drop_zero]
   repeat' (first | apply And.intro | intro _)
   any_goals (first | (refine hR17 _ _ _ _ ?_; clear hR17) | omega | (simp_all <;> omega))
   try simp (maxSteps := 1000000) [tn2, tn3, tn1, tnh, tnp, cmI_lt, hjw0, hle, List.take_succ_cons, List.take_zero, List.drop_succ_cons, List.drop_zero]
   repeat' (first | apply And.intro | intro _)
   any_goals (first | kernel_rfl | (refine hK16 _ ?_; clear hK16) | omega | (simp_all <;> omega))
   refine swp_region ty_ok ?_
   try simp (maxSteps := 1000000) [tn2, tn3, tn1, tnh, tnp, cmI_lt]
   repeat' apply And.intro
   any_goals (try omega)
   refine hL8 _ ⟨[(0, .sl 42 0 N N), (1, .int .i64 (a : Nat)), (2, .int .i64 (b : Nat)), (3, .fn 73 [.ptr 98 0 0 1]), (8, .int .i64 (i : Nat)), (9, .int .i64 ((j - 1) : Nat))], [(42, some ⟨.ints .i64 (sw q j (j - 1)), false, 3⟩), (98, some ⟨.rows 289 [zs.map (PV.int .u8)], true, 118⟩)], 99⟩ _ ?_ ⟨(j - 1), (sw q j (j - 1)), by omega, by exact sw_ok hq2 _ _, by exact (insJ_step (by have h := hc15; omega)).symm.trans hJ, rfl, rfl⟩ ⟨by simp [getT, PV.lo, lo1, hjw], by simp [getH, Blk.lo, Cells.lo, lo1, sw], rfl, by omega⟩
   omega
  ·clear hC15
   try simp at hc15
   refine swp_exit ?_
   simp [thn, inBlk]
   refine hK6 _ ?_; clear hK6
   refine swp_region ty_ok ?_
   try simp (maxSteps := 1000000) [tn2, tn3, tn1, tnh, tnp, cmI_lt, hiw]
   repeat' apply And.intro
   any_goals (try omega)
   refine hL2 _ ⟨[(0, .sl 42 0 N N), (1, .int .i64 (a : Nat)), (2, .int .i64 (b : Nat)), (3, .fn 73 [.ptr 98 0 0 1]), (8, .int .i64 ((i + 1) : Nat))], [(42, some ⟨.ints .i64 q, false, 3⟩), (98, some ⟨.rows 289 [zs.map (PV.int .u8)], true, 118⟩)], 99⟩ _ ?_ ⟨(i + 1), (q), by omega, by omega, by assumption, by (have h1 := insJ_stop (fz := fz) (a := a) (j := j) (d := q) (by have h := hc15; omega); rw [← hR, insR_step (c := b - i) (by omega), ← hJ, h1]; rfl), rfl, rfl⟩ ⟨by simp [getT, PV.lo, lo1, hiw], by simp [getH, Blk.lo, Cells.lo, lo1, sw], rfl, by omega⟩
   omega
 ·clear hC5
  try simp at hc5
  refine swp_exit ?_
  simp [thn, inBlk]
  simp [fnPostH, PV.inR, inR1, PV.inL, inL1, Blk.inL, Cells.inL, put_at, Try.results120, resP, tupOf]
  (have hc0 : b - i = 0 := (by omega)); rw [hc0] at hR; exact hR

set_option maxHeartbeats 4000000 in
theorem rot_w (N : Nat) (hN : N ≤ 289) (fz : Int → Int) (zs : List Int) (hC : Cm fz zs) (d : List Int) (hd : Dok N d) (a m b : Nat) (ha : a < m) (hm : m < b) (hb : b ≤ N) : HCall Try.prog 125 [.sl 42 0 N N, .int .i64 (a : Nat), .int .i64 (m : Nat), .int .i64 (b : Nat), .fn 73 [.ptr 98 0 0 1]] [(42, some ⟨.ints .i64 d, false, 3⟩), (98, some ⟨.rows 289 [zs.map (PV.int .u8)], true, 118⟩)] 99 (.tup []) [(42, some ⟨.ints .i64 (rot m (b - a) (m - a) (b - m) d), false, 3⟩)] := by
 have hlen := hd.len
 have hpur := hC.pur
 have h1 := wsub (a := m) (b := a) (by omega) (by omega)
 have h2 := wsub (a := b) (b := m) (by omega) (by omega)
 refine hcall_body ty_ok Try.func125 rfl (by rfl) (by simp) ?_
 rw [Try.ntmps125]
 refine swp_seq fun K1 hK1 => ?_
 refine swp_region ty_ok ?_
 try simp (maxSteps := 1000000) [tn2, tn3, tn1, tnh, h1]
 repeat' (first | apply And.intro | intro _)
 any_goals (first | (refine hK1 _ ?_; clear hK1) | omega | (simp_all <;> omega))
 refine swp_seq fun K2 hK2 => ?_
 refine swp_region ty_ok ?_
 try simp (maxSteps := 1000000) [tn2, tn3, tn1, tnh, h2]
 repeat' (first | apply And.intro | intro _)
 any_goals (first | (refine hK2 _ ?_; clear hK2) | omega | (simp_all <;> omega))
 refine swp_seq fun K3 hK3 => ?_
 refine swp_block ?_
 refine swp_loop 99 (fun m_ s_ => ∃ (f : Nat) (i : Nat) (j : Nat) (e : List Int), (i + j ≤ f) ∧ (0 < i) ∧ (0 < j) ∧ (i ≤ m) ∧ (m + j ≤ N) ∧ (Dok N e) ∧ (rot m f i j e = rot m (b - a) (m - a) (b - m) d) ∧ s_ = ⟨[(0, .sl 42 0 N N), (1, .int .i64 (a : Nat)), (2, .int .i64 (m : Nat)), (3, .int .i64 (b : Nat)), (4, .fn 73 [.ptr 98 0 0 1]), (10, .int .i64 (i : Nat)), (11, .int .i64 (j : Nat))], [(42, some ⟨.ints .i64 e, false, 3⟩), (98, some ⟨.rows 289 [zs.map (PV.int .u8)], true, 118⟩)], 99⟩ ∧ m_ = f + 1) _ ⟨[(0, .sl 42 0 N N), (1, .int .i64 (a : Nat)), (2, .int .i64 (m : Nat)), (3, .int .i64 (b : Nat)), (4, .fn 73 [.ptr 98 0 0 1]), (10, .int .i64 ((m - a) : Nat)), (11, .int .i64 ((b - m) : Nat))], [(42, some ⟨.ints .i64 d, false, 3⟩), (98, some ⟨.rows 289 [zs.map (PV.int .u8)], true, 118⟩)], 99⟩ ⟨by simp [getT, PV.lo, lo1], by simp [getH, Blk.lo, Cells.lo, lo1], rfl, by omega⟩ ⟨(b - a), (m - a), (b - m), (d), by omega, by omega, by omega, by omega, by omega, by exact hd, by rfl, rfl, rfl⟩ ?_
 rintro m_ s_ ⟨f, i, j, e, hL4_0, hL4_1, hL4_2, hL4_3, hL4_4, hL4_5, hL4_6, rfl, rfl⟩ KL4 hL4
 have hq := (by assumption : Dok N e)
 have hlq := hq.len
 have hR := (by assumption : rot m f i j e = rot m (b - a) (m - a) (b - m) d)
 refine swp_seq fun K5 hK5 => ?_
 refine swp_seq fun K6 hK6 => ?_
 refine swp_region ty_ok ?_
 try simp (maxSteps := 1000000) [tn2, tn3, tn1, tnh]
 repeat' (first | apply And.intro | intro _)
 any_goals (first | (refine hK6 _ ?_; clear hK6) | omega | (simp_all <;> omega))
 refine swp_if fun C7 hC7 => ?_
 try simp (maxSteps := 1000000) [tn2, tn3, tn1, tnh]
 refine hC7 _ (fun hc7 => ?_) (fun hc7 => ?_)
 ·clear hC7
  try simp at hc7
  refine swp_skip ?_
  try simp only [thn, inBlk]
  refine hK5 _ ?_; clear hK5
  refine swp_block ?_
  refine swp_seq fun K8 hK8 => ?_
  refine swp_region ty_ok ?_
  try simp (maxSteps := 1000000) [tn2, tn3, tn1, tnh]
  repeat' (first | apply And.intro | intro _)
  any_goals (first | (refine hK8 _ ?_; clear hK8) | omega | (simp_all <;> omega))
  refine swp_if fun C9 hC9 => ?_
  try simp (maxSteps := 1000000) [tn2, tn3, tn1, tnh]
  refine hC9 _ (fun hc9 => ?_) (fun hc9 => ?_)
  ·clear hC9
   try simp at hc9
   refine swp_seq fun K10 hK10 => ?_
   have hji : j < i := (by have h := hc9; omega)
   have hmi := wsub (a := m) (b := i) (by omega) (by omega)
   have hij := wsub (a := i) (b := j) (by omega) (by omega)
   have hcall := swapR_ok N hN fz zs hC e hq (m - i) m j (by omega) (by omega)
   refine swp_region ty_ok ?_
   refine runs_cut 7 fun R11 hR11 => ?_
   try simp (maxSteps := 1000000) [tn2, tn3, tn1, tnh, hmi, List.take_succ_cons, List.take_zero, List.drop_succ_cons, List.drop_zero]
   repeat' (first | apply And.intro | intro _)
   any_goals (first | (refine hR11 _ ?_; clear hR11) | omega | (simp_all <;> omega))
   try simp (maxSteps := 1000000) [tn2, tn3, tn1, tnh, hmi, List.take_succ_cons, List.take_zero, List.drop_succ_cons, List.drop_zero]
   refine .inr (hcl_mk (hcall) (by simp [PV.ids, id1, getH, Blk.inL, Cells.inL, inL1]) (by simp [PV.inL, inL1]) (by simp) ?_)
   try simp (maxSteps := 1000000) [tn2, tn3, tn1, tnh, hmi]
   repeat' (first | apply And.intro | intro _)
   any_goals (first | (refine hK10 _ ?_; clear hK10) | omega | (simp_all <;> omega))
   refine swp_region ty_ok ?_
   try simp (maxSteps := 1000000) [tn2, tn3, tn1, tnh, hij]
   repeat' apply And.intro
   any_goals (try omega)
   first | refine hL4 _ ⟨[(0, .sl 42 0 N N), (1, .int .i64 (a : Nat)), (2, .int .i64 (m : Nat)), (3, .int .i64 (b : Nat)), (4, .fn 73 [.ptr 98 0 0 1]), (10, .int .i64 ((i - j) : Nat)), (11, .int .i64 (j : Nat))], [(42, some ⟨.ints .i64 (swR (m - i) m j 0 e), false, 3⟩), (98, some ⟨.rows 289 [zs.map (PV.int .u8)], true, 118⟩)], 99⟩ _ ?_ ⟨(f - 1), (i - j), (j), (swR (m - i) m j 0 e), by omega, by omega, by omega, by omega, by omega, by exact swR_ok _ _ hq, by (first | exact (rot_gt (by omega) hji).symm.trans hR | exact (rot_lt (by omega) hji).symm.trans hR), rfl, rfl⟩ ⟨by simp [getT, PV.lo, lo1, hij], by simp [getH, Blk.lo, Cells.lo, lo1], rfl, by omega⟩ | refine hL4 _ ⟨[(0, .sl 42 0 N N), (1, .int .i64 (a : Nat)), (2, .int .i64 (m : Nat)), (3, .int .i64 (b : Nat)), (4, .fn 73 [.ptr 98 0 0 1]), (10, .int .i64 (i : Nat)), (11, .int .i64 ((j - i) : Nat))], [(42, some ⟨.ints .i64 (swR (m - i) (m + j - i) i 0 e), false, 3⟩), (98, some ⟨.rows 289 [zs.map (PV.int .u8)], true, 118⟩)], 99⟩ _ ?_ ⟨(f - 1), (i), (j - i), (swR (m - i) (m + j - i) i 0 e), by omega, by omega, by omega, by omega, by omega, by exact swR_ok _ _ hq, by (first | exact (rot_gt (by omega) hji).symm.trans hR | exact (rot_lt (by omega) hji).symm.trans hR), rfl, rfl⟩ ⟨by simp [getT, PV.lo, lo1, hij], by simp [getH, Blk.lo, Cells.lo, lo1], rfl, by omega⟩
   omega
  ·clear hC9
   try simp at hc9
   refine swp_seq fun K12 hK12 => ?_
   have hji : i < j := (by have h := hc9; omega)
   have hmi := wsub (a := m) (b := i) (by omega) (by omega)
   have hmj := wadd (a := m) (b := j) (by omega)
   have hmji := wsub (a := m + j) (b := i) (by omega) (by omega)
   rw [Int.natCast_add] at hmj hmji
   have hij := wsub (a := j) (b := i) (by omega) (by omega)
   have hcall := swapR_ok N hN fz zs hC e hq (m - i) (m + j - i) i (by omega) (by omega)
   refine swp_region ty_ok ?_
   refine runs_cut 11 fun R13 hR13 => ?_
   try simp (maxSteps := 1000000) [tn2, tn3, tn1, tnh, hmi, hmj, hmji, List.take_succ_cons, List.take_zero, List.drop_succ_cons, List.drop_zero]
   repeat' (first | apply And.intro | intro _)
   any_goals (first | (refine hR13 _ ?_; clear hR13) | omega | (simp_all <;> omega))
   try simp (maxSteps := 1000000) [tn2, tn3, tn1, tnh, hmi, hmj, hmji, List.take_succ_cons, List.take_zero, List.drop_succ_cons, List.drop_zero]
   refine .inr (hcl_mk (hcall) (by simp [PV.ids, id1, getH, Blk.inL, Cells.inL, inL1]) (by simp [PV.inL, inL1]) (by simp) ?_)
   try simp (maxSteps := 1000000) [tn2, tn3, tn1, tnh, hmi, hmj, hmji]
   repeat' (first | apply And.intro | intro _)
   any_goals (first | (refine hK12 _ ?_; clear hK12) | omega | (simp_all <;> omega))
   refine swp_region ty_ok ?_
   try simp (maxSteps := 1000000) [tn2, tn3, tn1, tnh, hij]
   repeat' apply And.intro
   any_goals (try omega)
   first | refine hL4 _ ⟨[(0, .sl 42 0 N N), (1, .int .i64 (a : Nat)), (2, .int .i64 (m : Nat)), (3, .int .i64 (b : Nat)), (4, .fn 73 [.ptr 98 0 0 1]), (10, .int .i64 ((i - j) : Nat)), (11, .int .i64 (j : Nat))], [(42, some ⟨.ints .i64 (swR (m - i) m j 0 e), false, 3⟩), (98, some ⟨.rows 289 [zs.map (PV.int .u8)], true, 118⟩)], 99⟩ _ ?_ ⟨(f - 1), (i - j), (j), (swR (m - i) m j 0 e), by omega, by omega, by omega, by omega, by omega, by exact swR_ok _ _ hq, by (first | exact (rot_gt (by omega) hji).symm.trans hR | exact (rot_lt (by omega) hji).symm.trans hR), rfl, rfl⟩ ⟨by simp [getT, PV.lo, lo1, hij], by simp [getH, Blk.lo, Cells.lo, lo1], rfl, by omega⟩ | refine hL4 _ ⟨[(0, .sl 42 0 N N), (1, .int .i64 (a : Nat)), (2, .int .i64 (m : Nat)), (3, .int .i64 (b : Nat)), (4, .fn 73 [.ptr 98 0 0 1]), (10, .int .i64 (i : Nat)), (11, .int .i64 ((j - i) : Nat))], [(42, some ⟨.ints .i64 (swR (m - i) (m + j - i) i 0 e), false, 3⟩), (98, some ⟨.rows 289 [zs.map (PV.int .u8)], true, 118⟩)], 99⟩ _ ?_ ⟨(f - 1), (i), (j - i), (swR (m - i) (m + j - i) i 0 e), by omega, by omega, by omega, by omega, by omega, by exact swR_ok _ _ hq, by (first | exact (rot_gt (by omega) hji).symm.trans hR | exact (rot_lt (by omega) hji).symm.trans hR), rfl, rfl⟩ ⟨by simp [getT, PV.lo, lo1, hij], by simp [getH, Blk.lo, Cells.lo, lo1], rfl, by omega⟩
   omega
 ·clear hC7
  try simp at hc7
  refine swp_exit ?_
  simp [thn, inBlk]
  refine hK3 _ ?_; clear hK3
  have hij : i = j := (by omega)
  have hmi := wsub (a := m) (b := i) (by omega) (by omega)
  have hcall := swapR_ok N hN fz zs hC e hq (m - i) m i (by omega) (by omega)
  refine swp_region ty_ok ?_
  refine runs_cut 7 fun R14 hR14 => ?_
  try simp (maxSteps := 1000000) [tn2, tn3, tn1, tnh, hmi, List.take_succ_cons, List.take_zero, List.drop_succ_cons, List.drop_zero]
  repeat' (first | apply And.intro | intro _)
  any_goals (first | (refine hR14 _ ?_; clear hR14) | omega | (simp_all <;> omega))
  try simp (maxSteps := 1000000) [tn2, tn3, tn1, tnh, hmi, List.take_succ_cons, List.take_zero, List.drop_succ_cons, List.drop_zero]
  refine .inr (hcl_mk (hcall) (by simp [PV.ids, id1, getH, Blk.inL, Cells.inL, inL1]) (by simp [PV.inL, inL1]) (by simp) ?_)
  try simp (maxSteps := 1000000) [tn2, tn3, tn1, tnh, hmi]
  simp [fnPostH, PV.inR, inR1, PV.inL, inL1, Blk.inL, Cells.inL, put_at, Try.results125, resP, tupOf]
  exact (rot_eq hij).symm.trans hR

set_option maxHeartbeats 4000000 in
theorem symM_w (N : Nat) (hN : N ≤ 289) (fz : Int → Int) (zs : List Int) (hC : Cm fz zs) (d : List Int) (hd : Dok N d) (f : Nat) (a m b : Nat) (ha : a < m) (hm : m < b) (hb : b ≤ N) (hf : b - a ≤ f + 1) (ih : ∀ (a m b : Nat) (d : List Int), Dok N d → a < m → m < b → b ≤ N → b - a ≤ f → HCall Try.prog 121 [.sl 42 0 N N, .int .i64 (a : Nat), .int .i64 (m : Nat), .int .i64 (b : Nat), .fn 73 [.ptr 98 0 0 1]] [(42, some ⟨.ints .i64 d, false, 3⟩), (98, some ⟨.rows 289 [zs.map (PV.int .u8)], true, 118⟩)] 99 (.tup []) [(42, some ⟨.ints .i64 (symM fz f a m b d), false, 3⟩)]) : HCall Try.prog 121 [.sl 42 0 N N, .int .i64 (a : Nat), .int .i64 (m : Nat), .int .i64 (b : Nat), .fn 73 [.ptr 98 0 0 1]] [(42, some ⟨.ints .i64 d, false, 3⟩), (98, some ⟨.rows 289 [zs.map (PV.int .u8)], true, 118⟩)] 99 (.tup []) [(42, some ⟨.ints .i64 (symM fz (f + 1) a m b d), false, 3⟩)] := by
 have hlen := hd.len
 have hpur := hC.pur
 have hma := wsub (a := m) (b := a) (by omega) (by omega)
 have hbm := wsub (a := b) (b := m) (by omega) (by omega)
 refine hcall_body ty_ok Try.func121 rfl (by rfl) (by simp) ?_
 rw [Try.ntmps121]
 refine swp_seq fun K1 hK1 => ?_
 refine swp_seq fun K2 hK2 => ?_
 refine swp_region ty_ok ?_
 try simp (maxSteps := 1000000) [tn2, tn3, tn1, tnh, tnp, cmI_lt, hma]
 repeat' (first | apply And.intro | intro _)
 any_goals (first | (refine hK2 _ ?_; clear hK2) | omega | (simp_all <;> omega))
 refine swp_if fun C3 hC3 => ?_
 try simp (maxSteps := 1000000) [tn2, tn3, tn1, tnh, tnp, cmI_lt, hma]
 refine hC3 _ (fun hc3 => ?_) (fun hc3 => ?_)
 ·clear hC3
  try simp at hc3
  refine swp_seq fun K4 hK4 => ?_
  refine swp_region ty_ok ?_
  try simp (maxSteps := 1000000) [tn2, tn3, tn1, tnh, tnp, cmI_lt]
  repeat' (first | apply And.intro | intro _)
  any_goals (first | (refine hK4 _ ?_; clear hK4) | omega | (simp_all <;> omega))
  refine swp_seq fun K5 hK5 => ?_
  refine swp_region ty_ok ?_
  try simp (maxSteps := 1000000) [tn2, tn3, tn1, tnh, tnp, cmI_lt]
  repeat' (first | apply And.intro | intro _)
  any_goals (first | (refine hK5 _ ?_; clear hK5) | omega | (simp_all <;> omega))
  refine swp_seq fun K6 hK6 => ?_
  refine swp_block ?_
  refine swp_loop 99 (fun m_ s_ => ∃ (f : Nat) (i : Nat) (j : Nat), (j ≤ i + f) ∧ (m ≤ i) ∧ (i ≤ j) ∧ (j ≤ b) ∧ (bis (tA fz d a) f i j = bis (tA fz d a) (b - m) (m) (b)) ∧ s_ = ⟨[(0, .sl 42 0 N N), (1, .int .i64 (a : Nat)), (2, .int .i64 (m : Nat)), (3, .int .i64 (b : Nat)), (4, .fn 73 [.ptr 98 0 0 1]), (10, .int .i64 (i : Nat)), (11, .int .i64 (j : Nat))], [(42, some ⟨.ints .i64 d, false, 3⟩), (98, some ⟨.rows 289 [zs.map (PV.int .u8)], true, 118⟩)], 99⟩ ∧ m_ = f + 1) _ ⟨[(0, .sl 42 0 N N), (1, .int .i64 (a : Nat)), (2, .int .i64 (m : Nat)), (3, .int .i64 (b : Nat)), (4, .fn 73 [.ptr 98 0 0 1]), (10, .int .i64 (m : Nat)), (11, .int .i64 (b : Nat))], [(42, some ⟨.ints .i64 d, false, 3⟩), (98, some ⟨.rows 289 [zs.map (PV.int .u8)], true, 118⟩)], 99⟩ ⟨by simp [getT, PV.lo, lo1], by simp [getH, Blk.lo, Cells.lo, lo1], rfl, by omega⟩ ⟨(b - m), (m), (b), by omega, by omega, by omega, by omega, by rfl, rfl, rfl⟩ ?_
  rintro m_ s_ ⟨f, i, j, hL7_0, hL7_1, hL7_2, hL7_3, hL7_4, rfl, rfl⟩ KL7 hL7
  have hR := (by assumption : bis (tA fz d a) f i j = bis (tA fz d a) (b - m) (m) (b))
  refine swp_seq fun K8 hK8 => ?_
  refine swp_seq fun K9 hK9 => ?_
  refine swp_region ty_ok ?_
  try simp (maxSteps := 1000000) [tn2, tn3, tn1, tnh, tnp, cmI_lt]
  repeat' (first | apply And.intro | intro _)
  any_goals (first | (refine hK9 _ ?_; clear hK9) | omega | (simp_all <;> omega))
  refine swp_if fun C10 hC10 => ?_
  try simp (maxSteps := 1000000) [tn2, tn3, tn1, tnh, tnp, cmI_lt]
  refine hC10 _ (fun hc10 => ?_) (fun hc10 => ?_)
  ·clear hC10
   try simp at hc10
   refine swp_skip ?_
   try simp only [thn, inBlk]
   refine hK8 _ ?_; clear hK8
   refine swp_block ?_
   refine swp_seq fun K11 hK11 => ?_
   have hadd := wadd (a := i) (b := j) (by omega)
   have hhalf := whalf2 (a := i) (b := j) (by omega)
   rw [Int.natCast_add] at hadd
   have hh1 := wnext (i := (i + j) / 2) (by omega)
   rw [show (((i + j) / 2 : Nat) : Int) = ((i : Int) + (j : Int)) / 2 by omega] at hh1
   refine swp_region ty_ok ?_
   try simp (maxSteps := 1000000) [tn2, tn3, tn1, tnh, tnp, cmI_lt, hadd, hhalf]
   repeat' (first | apply And.intro | intro _)
   any_goals (first | (refine hK11 _ ?_; clear hK11) | omega | (simp_all <;> omega))
   refine swp_seq fun K12 hK12 => ?_
   have hx1 := hd.el ((i + j) / 2)
   have hx2 := hd.el a
   refine swp_draw ty_ok mixed (ms := [0, 0, 0, 6, 14, 0, 0, 96, 224, 511, 1023]) (by kernel_rfl) ?_
   refine runD_cut 9 fun R13 hR13 => ?_
   try simp (maxSteps := 1000000) [tn2, tn3, tn1, tnh, tnp, cmI_lt, List.take_succ_cons, List.take_zero, List.drop_succ_cons, List.drop_zero]
   repeat' (first | apply And.intro | intro _)
   any_goals (first | (refine hR13 _ _ _ _ ?_; clear hR13) | omega | (simp_all <;> omega))
   refine runD_cut 1 fun R14 hR14 => ?_
   try simp (maxSteps := 1000000) [tn2, tn3, tn1, tnh, tnp, cmI_lt, List.take_succ_cons, List.take_zero, List.drop_succ_cons, List.drop_zero]
   refine .inl ⟨_, hC.call _ _ hx1 hx2, ?_⟩
   try simp (maxSteps := 1000000) [tn2, tn3, tn1, tnh, tnp, cmI_lt]
   repeat' (first | apply And.intro | intro _)
   any_goals (first | (refine hR14 _ _ _ _ ?_; clear hR14) | omega | (simp_all <;> omega))
   try simp (maxSteps := 1000000) [tn2, tn3, tn1, tnh, tnp, cmI_lt, List.take_succ_cons, List.take_zero, List.drop_succ_cons, List.drop_zero]
   repeat' (first | apply And.intro | intro _)
   any_goals (first | kernel_rfl | (refine hK12 _ ?_; clear hK12) | omega | (simp_all <;> omega))
   refine swp_if fun C16 hC16 => ?_
   try simp (maxSteps := 1000000) [tn2, tn3, tn1, tnh, tnp, cmI_lt]
   refine hC16 _ (fun hc16 => ?_) (fun hc16 => ?_)
   ·clear hC16
    try simp at hc16
    refine swp_region ty_ok ?_
    try simp (maxSteps := 1000000) [tn2, tn3, tn1, tnh, tnp, cmI_lt, hh1]
    repeat' apply And.intro
    any_goals (try omega)
    first | refine hL7 _ ⟨[(0, .sl 42 0 N N), (1, .int .i64 (a : Nat)), (2, .int .i64 (m : Nat)), (3, .int .i64 (b : Nat)), (4, .fn 73 [.ptr 98 0 0 1]), (10, .int .i64 ((i + j) / 2 + 1 : Nat)), (11, .int .i64 (j : Nat))], [(42, some ⟨.ints .i64 d, false, 3⟩), (98, some ⟨.rows 289 [zs.map (PV.int .u8)], true, 118⟩)], 99⟩ _ ?_ ⟨(f - 1), ((i + j) / 2 + 1), (j), by omega, by omega, by omega, by omega, by (first | exact (bis_y (by omega) (by omega) (by have h := hc16; simpa [tA] using h)).symm.trans hR | exact (bis_n (by omega) (by omega) (by have h := hc16; simpa [tA] using h)).symm.trans hR), rfl, rfl⟩ ⟨by simp [getT, PV.lo, lo1, hh1], by simp [getH, Blk.lo, Cells.lo, lo1], rfl, by omega⟩ | refine hL7 _ ⟨[(0, .sl 42 0 N N), (1, .int .i64 (a : Nat)), (2, .int .i64 (m : Nat)), (3, .int .i64 (b : Nat)), (4, .fn 73 [.ptr 98 0 0 1]), (10, .int .i64 (i : Nat)), (11, .int .i64 ((i + j) / 2 : Nat))], [(42, some ⟨.ints .i64 d, false, 3⟩), (98, some ⟨.rows 289 [zs.map (PV.int .u8)], true, 118⟩)], 99⟩ _ ?_ ⟨(f - 1), (i), ((i + j) / 2), by omega, by omega, by omega, by omega, by (first | exact (bis_y (by omega) (by omega) (by have h := hc16; simpa [tA] using h)).symm.trans hR | exact (bis_n (by omega) (by omega) (by have h := hc16; simpa [tA] using h)).symm.trans hR), rfl, rfl⟩ ⟨by simp [getT, PV.lo, lo1, hh1], by simp [getH, Blk.lo, Cells.lo, lo1], rfl, by omega⟩
    omega
   ·clear hC16
    try simp at hc16
    refine swp_region ty_ok ?_
    try simp (maxSteps := 1000000) [tn2, tn3, tn1, tnh, tnp, cmI_lt]
    repeat' apply And.intro
    any_goals (try omega)
    first | refine hL7 _ ⟨[(0, .sl 42 0 N N), (1, .int .i64 (a : Nat)), (2, .int .i64 (m : Nat)), (3, .int .i64 (b : Nat)), (4, .fn 73 [.ptr 98 0 0 1]), (10, .int .i64 ((i + j) / 2 + 1 : Nat)), (11, .int .i64 (j : Nat))], [(42, some ⟨.ints .i64 d, false, 3⟩), (98, some ⟨.rows 289 [zs.map (PV.int .u8)], true, 118⟩)], 99⟩ _ ?_ ⟨(f - 1), ((i + j) / 2 + 1), (j), by omega, by omega, by omega, by omega, by (first | exact (bis_y (by omega) (by omega) (by have h := hc16; simpa [tA] using h)).symm.trans hR | exact (bis_n (by omega) (by omega) (by have h := hc16; simpa [tA] using h)).symm.trans hR), rfl, rfl⟩ ⟨by simp [getT, PV.lo, lo1, hh1], by simp [getH, Blk.lo, Cells.lo, lo1], rfl, by omega⟩ | refine hL7 _ ⟨[(0, .sl 42 0 N N), (1, .int .i64 (a : Nat)), (2, .int .i64 (m : Nat)), (3, .int .i64 (b : Nat)), (4, .fn 73 [.ptr 98 0 0 1]), (10, .int .i64 (i : Nat)), (11, .int .i64 ((i + j) / 2 : Nat))], [(42, some ⟨.ints .i64 d, false, 3⟩), (98, some ⟨.rows 289 [zs.map (PV.int .u8)], true, 118⟩)], 99⟩ _ ?_ ⟨(f - 1), (i), ((i + j) / 2), by omega, by omega, by omega, by omega, by (first | exact (bis_y (by omega) (by omega) (by have h := hc16; simpa [tA] using h)).symm.trans hR | exact (bis_n (by omega) (by omega) (by have h := hc16; simpa [tA] using h)).symm.trans hR), rfl, rfl⟩ ⟨by simp [getT, PV.lo, lo1, hh1], by simp [getH, Blk.lo, Cells.lo, lo1], rfl, by omega⟩
    omega
  ·clear hC10
   try simp at hc10
   refine swp_exit ?_
   simp [thn, inBlk]
   refine hK6 _ ?_; clear hK6
   refine swp_seq fun K17 hK17 => ?_
   refine swp_seq fun K18 hK18 => ?_
   refine swp_region ty_ok ?_
   try simp (maxSteps := 1000000) [tn2, tn3, tn1, tnh, tnp, cmI_lt]
   repeat' (first | apply And.intro | intro _)
   any_goals (first | (refine hK18 _ ?_; clear hK18) | omega | (simp_all <;> omega))
   refine swp_block ?_
   have hI : bis (tA fz d a) (b - m) m b = i := hR.symm.trans (bis_e (by omega))
   have hi1 := wpr (a := i) (by omega)
   refine swp_loop 99 (fun m_ s_ => ∃ (c : Nat) (k : Nat) (e : List Int), (c + k + 1 = i) ∧ (Dok N e) ∧ (movR c k e = movR (i - 1 - a) a d) ∧ s_ = ⟨[(0, .sl 42 0 N N), (1, .int .i64 (a : Nat)), (2, .int .i64 (m : Nat)), (3, .int .i64 (b : Nat)), (4, .fn 73 [.ptr 98 0 0 1]), (10, .int .i64 (i : Nat)), (13, .int .i64 (k : Nat))], [(42, some ⟨.ints .i64 e, false, 3⟩), (98, some ⟨.rows 289 [zs.map (PV.int .u8)], true, 118⟩)], 99⟩ ∧ m_ = c + 1) _ ⟨[(0, .sl 42 0 N N), (1, .int .i64 (a : Nat)), (2, .int .i64 (m : Nat)), (3, .int .i64 (b : Nat)), (4, .fn 73 [.ptr 98 0 0 1]), (10, .int .i64 (i : Nat)), (13, .int .i64 (a : Nat))], [(42, some ⟨.ints .i64 d, false, 3⟩), (98, some ⟨.rows 289 [zs.map (PV.int .u8)], true, 118⟩)], 99⟩ ⟨by simp [getT, PV.lo, lo1], by simp [getH, Blk.lo, Cells.lo, lo1], rfl, by omega⟩ ⟨(i - 1 - a), (a), (d), by omega, by exact hd, by rfl, rfl, rfl⟩ ?_
   rintro m_ s_ ⟨c, k, e, hL19_0, hL19_1, hL19_2, rfl, rfl⟩ KL19 hL19
   have hkw := wnext (i := k) (by omega)
   have hq := (by assumption : Dok N e)
   have hlq := hq.len
   have hR2 := (by assumption : movR c k e = movR (i - 1 - a) a d)
   refine swp_seq fun K20 hK20 => ?_
   refine swp_seq fun K21 hK21 => ?_
   try have hkw := hkw
   refine swp_region ty_ok ?_
   try simp (maxSteps := 1000000) [tn2, tn3, tn1, tnh, tnp, cmI_lt, hi1]
   repeat' (first | apply And.intro | intro _)
   any_goals (first | (refine hK21 _ ?_; clear hK21) | omega | (simp_all <;> omega))
   refine swp_if fun C22 hC22 => ?_
   try simp (maxSteps := 1000000) [tn2, tn3, tn1, tnh, tnp, cmI_lt, hi1]
   refine hC22 _ (fun hc22 => ?_) (fun hc22 => ?_)
   ·clear hC22
    try simp at hc22
    refine swp_skip ?_
    try simp only [thn, inBlk]
    refine hK20 _ ?_; clear hK20
    refine swp_seq fun K23 hK23 => ?_
    refine swp_block ?_
    have hkk := tn1 (a := k)
    refine swp_draw ty_ok mixed (ms := [0, 0, 0, 0, 8, 0, 0, 64, 224, 480, 0, 0, 3072, 7168, 16355, 32739, 65535, 131071]) (by kernel_rfl) ?_
    refine runD_cut 9 fun R24 hR24 => ?_
    try simp (maxSteps := 1000000) [tn2, tn3, tn1, tnh, tnp, cmI_lt, hkw, hlq, List.take_succ_cons, List.take_zero, List.drop_succ_cons, List.drop_zero]
    repeat' (first | apply And.intro | intro _)
    any_goals (first | (refine hR24 _ _ _ _ ?_; clear hR24) | omega | (simp_all <;> omega))
    try simp (maxSteps := 1000000) [tn2, tn3, tn1, tnh, tnp, cmI_lt, hkw, hlq, List.take_succ_cons, List.take_zero, List.drop_succ_cons, List.drop_zero]
    repeat' (first | apply And.intro | intro _)
    any_goals (first | kernel_rfl | (refine hK23 _ ?_; clear hK23) | omega | (simp_all <;> omega))
    refine swp_region ty_ok ?_
    try simp (maxSteps := 1000000) [tn2, tn3, tn1, tnh, tnp, cmI_lt, hkw]
    repeat' apply And.intro
    any_goals (try omega)
    refine hL19 _ ⟨[(0, .sl 42 0 N N), (1, .int .i64 (a : Nat)), (2, .int .i64 (m : Nat)), (3, .int .i64 (b : Nat)), (4, .fn 73 [.ptr 98 0 0 1]), (10, .int .i64 (i : Nat)), (13, .int .i64 ((k + 1) : Nat))], [(42, some ⟨.ints .i64 (sw e k (k + 1)), false, 3⟩), (98, some ⟨.rows 289 [zs.map (PV.int .u8)], true, 118⟩)], 99⟩ _ ?_ ⟨(c - 1), (k + 1), (sw e k (k + 1)), by omega, by exact sw_ok hq _ _, by exact (movR_step (by omega)).symm.trans hR2, rfl, rfl⟩ ⟨by simp [getT, PV.lo, lo1, hkw], by simp [getH, Blk.lo, Cells.lo, lo1, sw], rfl, by omega⟩
    omega
   ·clear hC22
    try simp at hc22
    refine swp_exit ?_
    simp [thn, inBlk]
    refine hK17 _ ?_; clear hK17
    refine swp_ret ?_
    simp [fnPostH, PV.inR, inR1, PV.inL, inL1, Blk.inL, Cells.inL, put_at, Try.results121, resP, tupOf]
    rw [symM_1 (by omega), hI]
    have hc0 : c = 0 := (by omega)
    subst hc0
    exact hR2
 ·clear hC3
  try simp at hc3
  refine swp_skip ?_
  try simp only [thn, inBlk]
  refine hK1 _ ?_; clear hK1
  refine swp_seq fun K26 hK26 => ?_
  refine swp_seq fun K27 hK27 => ?_
  refine swp_region ty_ok ?_
  try simp (maxSteps := 1000000) [tn2, tn3, tn1, tnh, tnp, cmI_lt, hbm]
  repeat' (first | apply And.intro | intro _)
  any_goals (first | (refine hK27 _ ?_; clear hK27) | omega | (simp_all <;> omega))
  refine swp_if fun C28 hC28 => ?_
  try simp (maxSteps := 1000000) [tn2, tn3, tn1, tnh, tnp, cmI_lt, hbm]
  refine hC28 _ (fun hc28 => ?_) (fun hc28 => ?_)
  ·clear hC28
   try simp at hc28
   refine swp_seq fun K29 hK29 => ?_
   refine swp_region ty_ok ?_
   try simp (maxSteps := 1000000) [tn2, tn3, tn1, tnh, tnp, cmI_lt]
   repeat' (first | apply And.intro | intro _)
   any_goals (first | (refine hK29 _ ?_; clear hK29) | omega | (simp_all <;> omega))
   refine swp_seq fun K30 hK30 => ?_
   refine swp_region ty_ok ?_
   try simp (maxSteps := 1000000) [tn2, tn3, tn1, tnh, tnp, cmI_lt]
   repeat' (first | apply And.intro | intro _)
   any_goals (first | (refine hK30 _ ?_; clear hK30) | omega | (simp_all <;> omega))
   refine swp_seq fun K31 hK31 => ?_
   refine swp_block ?_
   refine swp_loop 99 (fun m_ s_ => ∃ (f : Nat) (i : Nat) (j : Nat), (j ≤ i + f) ∧ (a ≤ i) ∧ (i ≤ j) ∧ (j ≤ m) ∧ (bis (tB fz d m) f i j = bis (tB fz d m) (m - a) (a) (m)) ∧ s_ = ⟨[(0, .sl 42 0 N N), (1, .int .i64 (a : Nat)), (2, .int .i64 (m : Nat)), (3, .int .i64 (b : Nat)), (4, .fn 73 [.ptr 98 0 0 1]), (14, .int .i64 (i : Nat)), (15, .int .i64 (j : Nat))], [(42, some ⟨.ints .i64 d, false, 3⟩), (98, some ⟨.rows 289 [zs.map (PV.int .u8)], true, 118⟩)], 99⟩ ∧ m_ = f + 1) _ ⟨[(0, .sl 42 0 N N), (1, .int .i64 (a : Nat)), (2, .int .i64 (m : Nat)), (3, .int .i64 (b : Nat)), (4, .fn 73 [.ptr 98 0 0 1]), (14, .int .i64 (a : Nat)), (15, .int .i64 (m : Nat))], [(42, some ⟨.ints .i64 d, false, 3⟩), (98, some ⟨.rows 289 [zs.map (PV.int .u8)], true, 118⟩)], 99⟩ ⟨by simp [getT, PV.lo, lo1], by simp [getH, Blk.lo, Cells.lo, lo1], rfl, by omega⟩ ⟨(m - a), (a), (m), by omega, by omega, by omega, by omega, by rfl, rfl, rfl⟩ ?_
   rintro m_ s_ ⟨f, i, j, hL32_0, hL32_1, hL32_2, hL32_3, hL32_4, rfl, rfl⟩ KL32 hL32
   have hR := (by assumption : bis (tB fz d m) f i j = bis (tB fz d m) (m - a) (a) (m))
   refine swp_seq fun K33 hK33 => ?_
   refine swp_seq fun K34 hK34 => ?_
   refine swp_region ty_ok ?_
   try simp (maxSteps := 1000000) [tn2, tn3, tn1, tnh, tnp, cmI_lt]
   repeat' (first | apply And.intro | intro _)
   any_goals (first | (refine hK34 _ ?_; clear hK34) | omega | (simp_all <;> omega))
   refine swp_if fun C35 hC35 => ?_
   try simp (maxSteps := 1000000) [tn2, tn3, tn1, tnh, tnp, cmI_lt]
   refine hC35 _ (fun hc35 => ?_) (fun hc35 => ?_)
   ·clear hC35
    try simp at hc35
    refine swp_skip ?_
    try simp only [thn, inBlk]
    refine hK33 _ ?_; clear hK33
    refine swp_block ?_
    refine swp_seq fun K36 hK36 => ?_
    have hadd := wadd (a := i) (b := j) (by omega)
    have hhalf := whalf2 (a := i) (b := j) (by omega)
    rw [Int.natCast_add] at hadd
    have hh1 := wnext (i := (i + j) / 2) (by omega)
    rw [show (((i + j) / 2 : Nat) : Int) = ((i : Int) + (j : Int)) / 2 by omega] at hh1
    refine swp_region ty_ok ?_
    try simp (maxSteps := 1000000) [tn2, tn3, tn1, tnh, tnp, cmI_lt, hadd, hhalf]
    repeat' (first | apply And.intro | intro _)
    any_goals (first | (refine hK36 _ ?_; clear hK36) | omega | (simp_all <;> omega))
    refine swp_seq fun K37 hK37 => ?_
    have hx1 := hd.el ((i + j) / 2)
    have hx2 := hd.el m
    refine swp_draw ty_ok mixed (ms := [0, 0, 0, 6, 14, 0, 0, 96, 224, 511, 1023, 2047]) (by kernel_rfl) ?_
    refine runD_cut 9 fun R38 hR38 => ?_
    try simp (maxSteps := 1000000) [tn2, tn3, tn1, tnh, tnp, cmI_lt, List.take_succ_cons, List.take_zero, List.drop_succ_cons, List.drop_zero]
    repeat' (first | apply And.intro | intro _)
    any_goals (first | (refine hR38 _ _ _ _ ?_; clear hR38) | omega | (simp_all <;> omega))
    refine runD_cut 1 fun R39 hR39 => ?_
    try simp (maxSteps := 1000000) [tn2, tn3, tn1, tnh, tnp, cmI_lt, List.take_succ_cons, List.take_zero, List.drop_succ_cons, List.drop_zero]
    refine .inl ⟨_, hC.call _ _ hx2 hx1, ?_⟩
    try simp (maxSteps := 1000000) [tn2, tn3, tn1, tnh, tnp, cmI_lt]
    repeat' (first | apply And.intro | intro _)
    any_goals (first | (refine hR39 _ _ _ _ ?_; clear hR39) | omega | (simp_all <;> omega))
    try simp (maxSteps := 1000000) [tn2, tn3, tn1, tnh, tnp, cmI_lt, List.take_succ_cons, List.take_zero, List.drop_succ_cons, List.drop_zero]
    repeat' (first | apply And.intro | intro _)
    any_goals (first | kernel_rfl | (refine hK37 _ ?_; clear hK37) | omega | (simp_all <;> omega))
    refine swp_if fun C41 hC41 => ?_
    try simp (maxSteps := 1000000) [tn2, tn3, tn1, tnh, tnp, cmI_lt]
    refine hC41 _ (fun hc41 => ?_) (fun hc41 => ?_)
    ·clear hC41
     try simp at hc41
     refine swp_region ty_ok ?_
     try simp (maxSteps := 1000000) [tn2, tn3, tn1, tnh, tnp, cmI_lt, hh1]
     repeat' apply And.intro
     any_goals (try omega)
     first | refine hL32 _ ⟨[(0, .sl 42 0 N N), (1, .int .i64 (a : Nat)), (2, .int .i64 (m : Nat)), (3, .int .i64 (b : Nat)), (4, .fn 73 [.ptr 98 0 0 1]), (14, .int .i64 ((i + j) / 2 + 1 : Nat)), (15, .int .i64 (j : Nat))], [(42, some ⟨.ints .i64 d, false, 3⟩), (98, some ⟨.rows 289 [zs.map (PV.int .u8)], true, 118⟩)], 99⟩ _ ?_ ⟨(f - 1), ((i + j) / 2 + 1), (j), by omega, by omega, by omega, by omega, by (first | exact (bis_y (by omega) (by omega) (by have h := hc41; simpa [tB] using h)).symm.trans hR | exact (bis_n (by omega) (by omega) (by have h := hc41; simpa [tB] using h)).symm.trans hR), rfl, rfl⟩ ⟨by simp [getT, PV.lo, lo1, hh1], by simp [getH, Blk.lo, Cells.lo, lo1], rfl, by omega⟩ | refine hL32 _ ⟨[(0, .sl 42 0 N N), (1, .int .i64 (a : Nat)), (2, .int .i64 (m : Nat)), (3, .int .i64 (b : Nat)), (4, .fn 73 [.ptr 98 0 0 1]), (14, .int .i64 (i : Nat)), (15, .int .i64 ((i + j) / 2 : Nat))], [(42, some ⟨.ints .i64 d, false, 3⟩), (98, some ⟨.rows 289 [zs.map (PV.int .u8)], true, 118⟩)], 99⟩ _ ?_ ⟨(f - 1), (i), ((i + j) / 2), by omega, by omega, by omega, by omega, by (first | exact (bis_y (by omega) (by omega) (by have h := hc41; simpa [tB] using h)).symm.trans hR | exact (bis_n (by omega) (by omega) (by have h := hc41; simpa [tB] using h)).symm.trans hR), rfl, rfl⟩ ⟨by simp [getT, PV.lo, lo1, hh1], by simp [getH, Blk.lo, Cells.lo, lo1], rfl, by omega⟩
     omega
    ·clear hC41
     try simp at hc41
     refine swp_region ty_ok ?_
     try simp (maxSteps := 1000000) [tn2, tn3, tn1, tnh, tnp, cmI_lt]
     repeat' apply And.intro
     any_goals (try omega)
     first | refine hL32 _ ⟨[(0, .sl 42 0 N N), (1, .int .i64 (a : Nat)), (2, .int .i64 (m : Nat)), (3, .int .i64 (b : Nat)), (4, .fn 73 [.ptr 98 0 0 1]), (14, .int .i64 ((i + j) / 2 + 1 : Nat)), (15, .int .i64 (j : Nat))], [(42, some ⟨.ints .i64 d, false, 3⟩), (98, some ⟨.rows 289 [zs.map (PV.int .u8)], true, 118⟩)], 99⟩ _ ?_ ⟨(f - 1), ((i + j) / 2 + 1), (j), by omega, by omega, by omega, by omega, by (first | exact (bis_y (by omega) (by omega) (by have h := hc41; simpa [tB] using h)).symm.trans hR | exact (bis_n (by omega) (by omega) (by have h := hc41; simpa [tB] using h)).symm.trans hR), rfl, rfl⟩ ⟨by simp [getT, PV.lo, lo1, hh1], by simp [getH, Blk.lo, Cells.lo, lo1], rfl, by omega⟩ | refine hL32 _ ⟨[(0, .sl 42 0 N N), (1, .int .i64 (a : Nat)), (2, .int .i64 (m : Nat)), (3, .int .i64 (b : Nat)), (4, .fn 73 [.ptr 98 0 0 1]), (14, .int .i64 (i : Nat)), (15, .int .i64 ((i + j) / 2 : Nat))], [(42, some ⟨.ints .i64 d, false, 3⟩), (98, some ⟨.rows 289 [zs.map (PV.int .u8)], true, 118⟩)], 99⟩ _ ?_ ⟨(f - 1), (i), ((i + j) / 2), by omega, by omega, by omega, by omega, by (first | exact (bis_y (by omega) (by omega) (by have h := hc41; simpa [tB] using h)).symm.trans hR | exact (bis_n (by omega) (by omega) (by have h := hc41; simpa [tB] using h)).symm.trans hR), rfl, rfl⟩ ⟨by simp [getT, PV.lo, lo1, hh1], by simp [getH, Blk.lo, Cells.lo, lo1], rfl, by omega⟩
     omega
   ·clear hC35
    try simp at hc35
    refine swp_exit ?_
    simp [thn, inBlk]
    refine hK31 _ ?_; clear hK31
    refine swp_seq fun K42 hK42 => ?_
    refine swp_seq fun K43 hK43 => ?_
    refine swp_region ty_ok ?_
    try simp (maxSteps := 1000000) [tn2, tn3, tn1, tnh, tnp, cmI_lt]
    repeat' (first | apply And.intro | intro _)
    any_goals (first | (refine hK43 _ ?_; clear hK43) | omega | (simp_all <;> omega))
    refine swp_block ?_
    have hI : bis (tB fz d m) (m - a) a m = i := hR.symm.trans (bis_e (by omega))
    refine swp_loop 99 (fun m_ s_ => ∃ (c : Nat) (k : Nat) (e : List Int), (c + i = k) ∧ (k ≤ m) ∧ (Dok N e) ∧ (movL c k e = movL (m - i) m d) ∧ s_ = ⟨[(0, .sl 42 0 N N), (1, .int .i64 (a : Nat)), (2, .int .i64 (m : Nat)), (3, .int .i64 (b : Nat)), (4, .fn 73 [.ptr 98 0 0 1]), (14, .int .i64 (i : Nat)), (17, .int .i64 (k : Nat))], [(42, some ⟨.ints .i64 e, false, 3⟩), (98, some ⟨.rows 289 [zs.map (PV.int .u8)], true, 118⟩)], 99⟩ ∧ m_ = c + 1) _ ⟨[(0, .sl 42 0 N N), (1, .int .i64 (a : Nat)), (2, .int .i64 (m : Nat)), (3, .int .i64 (b : Nat)), (4, .fn 73 [.ptr 98 0 0 1]), (14, .int .i64 (i : Nat)), (17, .int .i64 (m : Nat))], [(42, some ⟨.ints .i64 d, false, 3⟩), (98, some ⟨.rows 289 [zs.map (PV.int .u8)], true, 118⟩)], 99⟩ ⟨by simp [getT, PV.lo, lo1], by simp [getH, Blk.lo, Cells.lo, lo1], rfl, by omega⟩ ⟨(m - i), (m), (d), by omega, by omega, by exact hd, by rfl, rfl, rfl⟩ ?_
    rintro m_ s_ ⟨c, k, e, hL44_0, hL44_1, hL44_2, hL44_3, rfl, rfl⟩ KL44 hL44
    have hq := (by assumption : Dok N e)
    have hlq := hq.len
    have hR2 := (by assumption : movL c k e = movL (m - i) m d)
    refine swp_seq fun K45 hK45 => ?_
    refine swp_seq fun K46 hK46 => ?_
    refine swp_region ty_ok ?_
    try simp (maxSteps := 1000000) [tn2, tn3, tn1, tnh, tnp, cmI_lt]
    repeat' (first | apply And.intro | intro _)
    any_goals (first | (refine hK46 _ ?_; clear hK46) | omega | (simp_all <;> omega))
    refine swp_if fun C47 hC47 => ?_
    try simp (maxSteps := 1000000) [tn2, tn3, tn1, tnh, tnp, cmI_lt]
    refine hC47 _ (fun hc47 => ?_) (fun hc47 => ?_)
    ·clear hC47
     try simp at hc47
     refine swp_skip ?_
     try simp only [thn, inBlk]
     refine hK45 _ ?_; clear hK45
     refine swp_seq fun K48 hK48 => ?_
     refine swp_block ?_
     have hkp0 := wpr (a := k) (by omega)
     have hkp := wpred (a := k) (by omega) (by omega)
     refine swp_draw ty_ok mixed (ms := [0, 0, 0, 0, 8, 0, 0, 64, 224, 480, 0, 0, 3072, 7168, 16355, 32739, 65535, 131071]) (by kernel_rfl) ?_
     refine runD_cut 9 fun R49 hR49 => ?_
     try simp (maxSteps := 1000000) [tn2, tn3, tn1, tnh, tnp, cmI_lt, hkp0, hlq, List.take_succ_cons, List.take_zero, List.drop_succ_cons, List.drop_zero]
     repeat' (first | apply And.intro | intro _)
     any_goals (first | (refine hR49 _ _ _ _ ?_; clear hR49) | omega | (simp_all <;> omega))
     try simp (maxSteps := 1000000) [tn2, tn3, tn1, tnh, tnp, cmI_lt, hkp0, hlq, List.take_succ_cons, List.take_zero, List.drop_succ_cons, List.drop_zero]
     repeat' (first | apply And.intro | intro _)
     any_goals (first | kernel_rfl | (refine hK48 _ ?_; clear hK48) | omega | (simp_all <;> omega))
     refine swp_region ty_ok ?_
     try simp (maxSteps := 1000000) [tn2, tn3, tn1, tnh, tnp, cmI_lt, hkp]
     repeat' apply And.intro
     any_goals (try omega)
     refine hL44 _ ⟨[(0, .sl 42 0 N N), (1, .int .i64 (a : Nat)), (2, .int .i64 (m : Nat)), (3, .int .i64 (b : Nat)), (4, .fn 73 [.ptr 98 0 0 1]), (14, .int .i64 (i : Nat)), (17, .int .i64 ((k - 1) : Nat))], [(42, some ⟨.ints .i64 (sw e k (k - 1)), false, 3⟩), (98, some ⟨.rows 289 [zs.map (PV.int .u8)], true, 118⟩)], 99⟩ _ ?_ ⟨(c - 1), (k - 1), (sw e k (k - 1)), by omega, by omega, by exact sw_ok hq _ _, by exact (movL_step (by omega)).symm.trans hR2, rfl, rfl⟩ ⟨by simp [getT, PV.lo, lo1, hkp], by simp [getH, Blk.lo, Cells.lo, lo1, sw], rfl, by omega⟩
     omega
    ·clear hC47
     try simp at hc47
     refine swp_exit ?_
     simp [thn, inBlk]
     refine hK42 _ ?_; clear hK42
     refine swp_ret ?_
     simp [fnPostH, PV.inR, inR1, PV.inL, inL1, Blk.inL, Cells.inL, put_at, Try.results121, resP, tupOf]
     rw [symM_2 (by omega) (by omega), hI]
     have hc0 : c = 0 := (by omega)
     subst hc0
     exact hR2
  ·clear hC28
   try simp at hc28
   refine swp_skip ?_
   try simp only [thn, inBlk]
   refine hK26 _ ?_; clear hK26
   refine swp_seq fun K51 hK51 => ?_
   obtain ⟨mid, hmid⟩ : ∃ x, x = (a + b) / 2 := ⟨_, rfl⟩
   obtain ⟨nn, hnn⟩ : ∃ x, x = mid + m := ⟨_, rfl⟩
   obtain ⟨p, hp⟩ : ∃ x, x = nn - 1 := ⟨_, rfl⟩
   obtain ⟨s0, hs0⟩ : ∃ x, sS a m b = x := ⟨_, rfl⟩
   obtain ⟨r0, hr0⟩ : ∃ x, sR a m b = x := ⟨_, rfl⟩
   have hab := wadd (a := a) (b := b) (by omega)
   rw [Int.natCast_add] at hab
   have hmw := whalf2 (a := a) (b := b) (by omega)
   rw [← hmid] at hmw
   have hnw := wadd (a := mid) (b := m) (by omega)
   rw [← hnn] at hnw
   have hpw := wpred (a := nn) (by omega) (by omega)
   rw [← hp] at hpw
   have hsI : sI fz a m b d = bis (tC fz d p) (r0 - s0) s0 r0 := by unfold sI; rw [hs0, hr0, ← hmid, ← hnn, ← hp]
   refine swp_region ty_ok ?_
   try simp (maxSteps := 1000000) [tn2, tn3, tn1, tnh, tnp, cmI_lt, hab, hmw]
   repeat' (first | apply And.intro | intro _)
   any_goals (first | (refine hK51 _ ?_; clear hK51) | omega | (simp_all <;> omega))
   refine swp_seq fun K52 hK52 => ?_
   refine swp_region ty_ok ?_
   try simp (maxSteps := 1000000) [tn2, tn3, tn1, tnh, tnp, cmI_lt, hnw]
   repeat' (first | apply And.intro | intro _)
   any_goals (first | (refine hK52 _ ?_; clear hK52) | omega | (simp_all <;> omega))
   refine swp_seq fun K53 hK53 => ?_
   refine swp_region ty_ok ?_
   try simp (maxSteps := 1000000) [tn2, tn3, tn1, tnh, tnp, cmI_lt]
   repeat' (first | apply And.intro | intro _)
   any_goals (first | (refine hK53 _ ?_; clear hK53) | omega | (simp_all <;> omega))
   refine swp_seq fun K54 hK54 => ?_
   refine swp_seq fun K55 hK55 => ?_
   refine swp_region ty_ok ?_
   try simp (maxSteps := 1000000) [tn2, tn3, tn1, tnh, tnp, cmI_lt]
   repeat' (first | apply And.intro | intro _)
   any_goals (first | (refine hK55 _ ?_; clear hK55) | omega | (simp_all <;> omega))
   refine swp_if fun C56 hC56 => ?_
   try simp (maxSteps := 1000000) [tn2, tn3, tn1, tnh, tnp, cmI_lt]
   refine hC56 _ (fun hc56 => ?_) (fun hc56 => ?_)
   ·clear hC56
    try simp at hc56
    refine swp_seq fun K57 hK57 => ?_
    have hs0v : s0 = nn - b := by rw [← hs0, sS, if_pos (by have h := hc56; omega)]; omega
    have hr0v : r0 = mid := by rw [← hr0, sR, if_pos (by have h := hc56; omega)]; exact hmid.symm
    have hnb := wsub (a := nn) (b := b) (by omega) (by omega)
    refine swp_region ty_ok ?_
    try simp (maxSteps := 1000000) [tn2, tn3, tn1, tnh, tnp, cmI_lt, hnb]
    repeat' (first | apply And.intro | intro _)
    any_goals (first | (refine hK57 _ ?_; clear hK57) | omega | (simp_all <;> omega))
    refine swp_region ty_ok ?_
    try simp (maxSteps := 1000000) [tn2, tn3, tn1, tnh, tnp, cmI_lt]
    repeat' (first | apply And.intro | intro _)
    any_goals (first | (refine hK54 _ ?_; clear hK54) | omega | (simp_all <;> omega))
    refine swp_seq fun K58 hK58 => ?_
    refine swp_region ty_ok ?_
    try simp (maxSteps := 1000000) [tn2, tn3, tn1, tnh, tnp, cmI_lt, hpw]
    repeat' (first | apply And.intro | intro _)
    any_goals (first | (refine hK58 _ ?_; clear hK58) | omega | (simp_all <;> omega))
    refine swp_seq fun K59 hK59 => ?_
    refine swp_block ?_
    refine swp_loop 99 (fun m_ s_ => ∃ (f2 : Nat) (i : Nat) (j : Nat), (j ≤ i + f2) ∧ (s0 ≤ i) ∧ (i ≤ j) ∧ (j ≤ r0) ∧ (bis (tC fz d p) f2 i j = bis (tC fz d p) (r0 - s0) s0 r0) ∧ s_ = ⟨[(0, .sl 42 0 N N), (1, .int .i64 (a : Nat)), (2, .int .i64 (m : Nat)), (3, .int .i64 (b : Nat)), (4, .fn 73 [.ptr 98 0 0 1]), (18, .int .i64 (mid : Nat)), (19, .int .i64 (nn : Nat)), (22, .int .i64 (p : Nat)), (20, .int .i64 (i : Nat)), (21, .int .i64 (j : Nat))], [(42, some ⟨.ints .i64 d, false, 3⟩), (98, some ⟨.rows 289 [zs.map (PV.int .u8)], true, 118⟩)], 99⟩ ∧ m_ = f2 + 1) _ ⟨[(0, .sl 42 0 N N), (1, .int .i64 (a : Nat)), (2, .int .i64 (m : Nat)), (3, .int .i64 (b : Nat)), (4, .fn 73 [.ptr 98 0 0 1]), (18, .int .i64 (mid : Nat)), (19, .int .i64 (nn : Nat)), (22, .int .i64 (p : Nat)), (20, .int .i64 (s0 : Nat)), (21, .int .i64 (r0 : Nat))], [(42, some ⟨.ints .i64 d, false, 3⟩), (98, some ⟨.rows 289 [zs.map (PV.int .u8)], true, 118⟩)], 99⟩ ⟨by simp [getT, PV.lo, lo1, hs0v, hr0v], by simp [getH, Blk.lo, Cells.lo, lo1], rfl, by omega⟩ ⟨(r0 - s0), (s0), (r0), by omega, by omega, by omega, by omega, by rfl, rfl, rfl⟩ ?_
    rintro m_ s_ ⟨f2, i, j, hL60_0, hL60_1, hL60_2, hL60_3, hL60_4, rfl, rfl⟩ KL60 hL60
    have hR := (by assumption : bis (tC fz d p) f2 i j = bis (tC fz d p) (r0 - s0) s0 r0)
    refine swp_seq fun K61 hK61 => ?_
    refine swp_seq fun K62 hK62 => ?_
    refine swp_region ty_ok ?_
    try simp (maxSteps := 1000000) [tn2, tn3, tn1, tnh, tnp, cmI_lt]
    repeat' (first | apply And.intro | intro _)
    any_goals (first | (refine hK62 _ ?_; clear hK62) | omega | (simp_all <;> omega))
    refine swp_if fun C63 hC63 => ?_
    try simp (maxSteps := 1000000) [tn2, tn3, tn1, tnh, tnp, cmI_lt]
    refine hC63 _ (fun hc63 => ?_) (fun hc63 => ?_)
    ·clear hC63
     try simp at hc63
     refine swp_skip ?_
     try simp only [thn, inBlk]
     refine hK61 _ ?_; clear hK61
     refine swp_block ?_
     refine swp_seq fun K64 hK64 => ?_
     have hadd := wadd (a := i) (b := j) (by omega)
     have hhalf := whalf2 (a := i) (b := j) (by omega)
     rw [Int.natCast_add] at hadd
     have hh1 := wnext (i := (i + j) / 2) (by omega)
     rw [show (((i + j) / 2 : Nat) : Int) = ((i : Int) + (j : Int)) / 2 by omega] at hh1
     refine swp_region ty_ok ?_
     try simp (maxSteps := 1000000) [tn2, tn3, tn1, tnh, tnp, cmI_lt, hadd, hhalf]
     repeat' (first | apply And.intro | intro _)
     any_goals (first | (refine hK64 _ ?_; clear hK64) | omega | (simp_all <;> omega))
     refine swp_seq fun K65 hK65 => ?_
     have hpc := wsub (a := p) (b := (i + j) / 2) (by omega) (by omega)
     rw [show (((i + j) / 2 : Nat) : Int) = ((i : Int) + (j : Int)) / 2 by omega] at hpc
     have hx1 := hd.el (p - (i + j) / 2)
     have hx2 := hd.el ((i + j) / 2)
     refine swp_draw ty_ok mixed (ms := [0, 0, 0, 0, 12, 30, 62, 0, 0, 384, 896, 2047, 4095, 8191]) (by kernel_rfl) ?_
     refine runD_cut 11 fun R66 hR66 => ?_
     try simp (maxSteps := 1000000) [tn2, tn3, tn1, tnh, tnp, cmI_lt, hpc, List.take_succ_cons, List.take_zero, List.drop_succ_cons, List.drop_zero]
     repeat' (first | apply And.intro | intro _)
     any_goals (first | (refine hR66 _ _ _ _ ?_; clear hR66) | omega | (simp_all <;> omega))
     refine runD_cut 1 fun R67 hR67 => ?_
     try simp (maxSteps := 1000000) [tn2, tn3, tn1, tnh, tnp, cmI_lt, hpc, List.take_succ_cons, List.take_zero, List.drop_succ_cons, List.drop_zero]
     refine .inl ⟨_, hC.call _ _ hx1 hx2, ?_⟩
     try simp (maxSteps := 1000000) [tn2, tn3, tn1, tnh, tnp, cmI_lt, hpc]
     repeat' (first | apply And.intro | intro _)
     any_goals (first | (refine hR67 _ _ _ _ ?_; clear hR67) | omega | (simp_all <;> omega))
     try simp (maxSteps := 1000000) [tn2, tn3, tn1, tnh, tnp, cmI_lt, hpc, List.take_succ_cons, List.take_zero, List.drop_succ_cons, List.drop_zero]
     repeat' (first | apply And.intro | intro _)
     any_goals (first | kernel_rfl | (refine hK65 _ ?_; clear hK65) | omega | (simp_all <;> omega))
     refine swp_if fun C69 hC69 => ?_
     try simp (maxSteps := 1000000) [tn2, tn3, tn1, tnh, tnp, cmI_lt, hpc]
     refine hC69 _ (fun hc69 => ?_) (fun hc69 => ?_)
     ·clear hC69
      try simp at hc69
      refine swp_region ty_ok ?_
      try simp (maxSteps := 1000000) [tn2, tn3, tn1, tnh, tnp, cmI_lt, hh1]
      repeat' apply And.intro
      any_goals (try omega)
      first | refine hL60 _ ⟨[(0, .sl 42 0 N N), (1, .int .i64 (a : Nat)), (2, .int .i64 (m : Nat)), (3, .int .i64 (b : Nat)), (4, .fn 73 [.ptr 98 0 0 1]), (18, .int .i64 (mid : Nat)), (19, .int .i64 (nn : Nat)), (22, .int .i64 (p : Nat)), (20, .int .i64 ((i + j) / 2 + 1 : Nat)), (21, .int .i64 (j : Nat))], [(42, some ⟨.ints .i64 d, false, 3⟩), (98, some ⟨.rows 289 [zs.map (PV.int .u8)], true, 118⟩)], 99⟩ _ ?_ ⟨(f2 - 1), ((i + j) / 2 + 1), (j), by omega, by omega, by omega, by omega, by (first | exact (bis_y (by omega) (by omega) (by have h := hc69; simpa [tC] using h)).symm.trans hR | exact (bis_n (by omega) (by omega) (by have h := hc69; simpa [tC] using h)).symm.trans hR), rfl, rfl⟩ ⟨by simp [getT, PV.lo, lo1, hh1], by simp [getH, Blk.lo, Cells.lo, lo1], rfl, by omega⟩ | refine hL60 _ ⟨[(0, .sl 42 0 N N), (1, .int .i64 (a : Nat)), (2, .int .i64 (m : Nat)), (3, .int .i64 (b : Nat)), (4, .fn 73 [.ptr 98 0 0 1]), (18, .int .i64 (mid : Nat)), (19, .int .i64 (nn : Nat)), (22, .int .i64 (p : Nat)), (20, .int .i64 (i : Nat)), (21, .int .i64 ((i + j) / 2 : Nat))], [(42, some ⟨.ints .i64 d, false, 3⟩), (98, some ⟨.rows 289 [zs.map (PV.int .u8)], true, 118⟩)], 99⟩ _ ?_ ⟨(f2 - 1), (i), ((i + j) / 2), by omega, by omega, by omega, by omega, by (first | exact (bis_y (by omega) (by omega) (by have h := hc69; simpa [tC] using h)).symm.trans hR | exact (bis_n (by omega) (by omega) (by have h := hc69; simpa [tC] using h)).symm.trans hR), rfl, rfl⟩ ⟨by simp [getT, PV.lo, lo1, hh1], by simp [getH, Blk.lo, Cells.lo, lo1], rfl, by omega⟩
      omega
     ·clear hC69
      try simp at hc69
      refine swp_region ty_ok ?_
      try simp (maxSteps := 1000000) [tn2, tn3, tn1, tnh, tnp, cmI_lt]
      repeat' apply And.intro
      any_goals (try omega)
      first | refine hL60 _ ⟨[(0, .sl 42 0 N N), (1, .int .i64 (a : Nat)), (2, .int .i64 (m : Nat)), (3, .int .i64 (b : Nat)), (4, .fn 73 [.ptr 98 0 0 1]), (18, .int .i64 (mid : Nat)), (19, .int .i64 (nn : Nat)), (22, .int .i64 (p : Nat)), (20, .int .i64 ((i + j) / 2 + 1 : Nat)), (21, .int .i64 (j : Nat))], [(42, some ⟨.ints .i64 d, false, 3⟩), (98, some ⟨.rows 289 [zs.map (PV.int .u8)], true, 118⟩)], 99⟩ _ ?_ ⟨(f2 - 1), ((i + j) / 2 + 1), (j), by omega, by omega, by omega, by omega, by (first | exact (bis_y (by omega) (by omega) (by have h := hc69; simpa [tC] using h)).symm.trans hR | exact (bis_n (by omega) (by omega) (by have h := hc69; simpa [tC] using h)).symm.trans hR), rfl, rfl⟩ ⟨by simp [getT, PV.lo, lo1, hh1], by simp [getH, Blk.lo, Cells.lo, lo1], rfl, by omega⟩ | refine hL60 _ ⟨[(0, .sl 42 0 N N), (1, .int .i64 (a : Nat)), (2, .int .i64 (m : Nat)), (3, .int .i64 (b : Nat)), (4, .fn 73 [.ptr 98 0 0 1]), (18, .int .i64 (mid : Nat)), (19, .int .i64 (nn : Nat)), (22, .int .i64 (p : Nat)), (20, .int .i64 (i : Nat)), (21, .int .i64 ((i + j) / 2 : Nat))], [(42, some ⟨.ints .i64 d, false, 3⟩), (98, some ⟨.rows 289 [zs.map (PV.int .u8)], true, 118⟩)], 99⟩ _ ?_ ⟨(f2 - 1), (i), ((i + j) / 2), by omega, by omega, by omega, by omega, by (first | exact (bis_y (by omega) (by omega) (by have h := hc69; simpa [tC] using h)).symm.trans hR | exact (bis_n (by omega) (by omega) (by have h := hc69; simpa [tC] using h)).symm.trans hR), rfl, rfl⟩ ⟨by simp [getT, PV.lo, lo1, hh1], by simp [getH, Blk.lo, Cells.lo, lo1], rfl, by omega⟩
      omega
    ·clear hC63
     try simp at hc63
     refine swp_exit ?_
     simp [thn, inBlk]
     refine hK59 _ ?_; clear hK59
     refine swp_seq fun K70 hK70 => ?_
     have hI : sI fz a m b d = i := hsI.trans (hR.symm.trans (bis_e (by omega)))
     obtain ⟨en, hen⟩ : ∃ x, x = mid + m - i := ⟨_, rfl⟩
     have hew := wsub (a := nn) (b := i) (by omega) (by omega)
     rw [show nn - i = en by omega] at hew
     refine swp_region ty_ok ?_
     try simp (maxSteps := 1000000) [tn2, tn3, tn1, tnh, tnp, cmI_lt, hew]
     repeat' (first | apply And.intro | intro _)
     any_goals (first | (refine hK70 _ ?_; clear hK70) | omega | (simp_all <;> omega))
     refine swp_seq fun K71 hK71 => ?_
     refine swp_seq fun K72 hK72 => ?_
     refine swp_region ty_ok ?_
     try simp (maxSteps := 1000000) [tn2, tn3, tn1, tnh, tnp, cmI_lt]
     repeat' (first | apply And.intro | intro _)
     any_goals (first | (refine hK72 _ ?_; clear hK72) | omega | (simp_all <;> omega))
     refine swp_if fun C73 hC73 => ?_
     try simp (maxSteps := 1000000) [tn2, tn3, tn1, tnh, tnp, cmI_lt]
     refine hC73 _ (fun hc73 => ?_) (fun hc73 => ?_)
     ·clear hC73
      try simp at hc73
      refine swp_region ty_ok ?_
      refine runs_cut 5 fun R74 hR74 => ?_
      try simp (maxSteps := 1000000) [tn2, tn3, tn1, tnh, tnp, cmI_lt, List.take_succ_cons, List.take_zero, List.drop_succ_cons, List.drop_zero]
      repeat' (first | apply And.intro | intro _)
      any_goals (first | (refine hR74 _ ?_; clear hR74) | omega | (simp_all <;> omega))
      try simp (maxSteps := 1000000) [tn2, tn3, tn1, tnh, tnp, cmI_lt, List.take_succ_cons, List.take_zero, List.drop_succ_cons, List.drop_zero]
      refine .inr (hcl_mk (rot_w N hN fz zs hC d hd i m en (by omega) (by omega) (by omega)) (by simp [PV.ids, id1, getH, Blk.inL, Cells.inL, inL1]) (by simp [PV.inL, inL1]) (by simp) ?_)
      try simp (maxSteps := 1000000) [tn2, tn3, tn1, tnh, tnp, cmI_lt]
      repeat' (first | apply And.intro | intro _)
      any_goals (first | (refine hK71 _ ?_; clear hK71) | omega | (simp_all <;> omega))
      refine swp_seq fun K75 hK75 => ?_
      refine swp_seq fun K76 hK76 => ?_
      refine swp_region ty_ok ?_
      try simp (maxSteps := 1000000) [tn2, tn3, tn1, tnh, tnp, cmI_lt]
      repeat' (first | apply And.intro | intro _)
      any_goals (first | (refine hK76 _ ?_; clear hK76) | omega | (simp_all <;> omega))
      refine swp_if fun C77 hC77 => ?_
      try simp (maxSteps := 1000000) [tn2, tn3, tn1, tnh, tnp, cmI_lt]
      refine hC77 _ (fun hc77 => ?_) (fun hc77 => ?_)
      ·clear hC77
       try simp at hc77
       refine swp_region ty_ok ?_
       refine runs_cut 5 fun R78 hR78 => ?_
       try simp (maxSteps := 1000000) [tn2, tn3, tn1, tnh, tnp, cmI_lt, List.take_succ_cons, List.take_zero, List.drop_succ_cons, List.drop_zero]
       repeat' (first | apply And.intro | intro _)
       any_goals (first | (refine hR78 _ ?_; clear hR78) | omega | (simp_all <;> omega))
       try simp (maxSteps := 1000000) [tn2, tn3, tn1, tnh, tnp, cmI_lt, List.take_succ_cons, List.take_zero, List.drop_succ_cons, List.drop_zero]
       first | (have hq0 : i < m ∧ m < en := (by assumption); refine .inr (hcl_mk (ih a i mid (rot m (en - i) (m - i) (en - m) d) (rot_ok _ _ _ hd) (by omega) (by omega) (by omega) (by omega)) (by simp [PV.ids, id1, getH, Blk.inL, Cells.inL, inL1]) (by simp [PV.inL, inL1]) (by simp) ?_)) | (refine .inr (hcl_mk (ih a i mid d hd (by omega) (by omega) (by omega) (by omega)) (by simp [PV.ids, id1, getH, Blk.inL, Cells.inL, inL1]) (by simp [PV.inL, inL1]) (by simp) ?_))
       try simp (maxSteps := 1000000) [tn2, tn3, tn1, tnh, tnp, cmI_lt]
       repeat' (first | apply And.intro | intro _)
       any_goals (first | (refine hK75 _ ?_; clear hK75) | omega | (simp_all <;> omega))
       refine swp_seq fun K79 hK79 => ?_
       refine swp_region ty_ok ?_
       try simp (maxSteps := 1000000) [tn2, tn3, tn1, tnh, tnp, cmI_lt]
       repeat' (first | apply And.intro | intro _)
       any_goals (first | (refine hK79 _ ?_; clear hK79) | omega | (simp_all <;> omega))
       refine swp_if fun C80 hC80 => ?_
       try simp (maxSteps := 1000000) [tn2, tn3, tn1, tnh, tnp, cmI_lt]
       refine hC80 _ (fun hc80 => ?_) (fun hc80 => ?_)
       ·clear hC80
        try simp at hc80
        refine swp_region ty_ok ?_
        refine runs_cut 5 fun R81 hR81 => ?_
        try simp (maxSteps := 1000000) [tn2, tn3, tn1, tnh, tnp, cmI_lt, List.take_succ_cons, List.take_zero, List.drop_succ_cons, List.drop_zero]
        repeat' (first | apply And.intro | intro _)
        any_goals (first | (refine hR81 _ ?_; clear hR81) | omega | (simp_all <;> omega))
        try simp (maxSteps := 1000000) [tn2, tn3, tn1, tnh, tnp, cmI_lt, List.take_succ_cons, List.take_zero, List.drop_succ_cons, List.drop_zero]
        first | (have hq0 : i < m ∧ m < en := (by assumption); have hq1 : a < i ∧ i < mid := (by assumption); refine .inr (hcl_mk (ih mid en b (symM fz f a i mid (rot m (en - i) (m - i) (en - m) d)) (symM_ok _ _ _ _ (rot_ok _ _ _ hd)) (by omega) (by omega) (by omega) (by omega)) (by simp [PV.ids, id1, getH, Blk.inL, Cells.inL, inL1]) (by simp [PV.inL, inL1]) (by simp) ?_)) | (have hq0 : i < m ∧ m < en := (by assumption); refine .inr (hcl_mk (ih mid en b (rot m (en - i) (m - i) (en - m) d) (rot_ok _ _ _ hd) (by omega) (by omega) (by omega) (by omega)) (by simp [PV.ids, id1, getH, Blk.inL, Cells.inL, inL1]) (by simp [PV.inL, inL1]) (by simp) ?_)) | (have hq1 : a < i ∧ i < mid := (by assumption); refine .inr (hcl_mk (ih mid en b (symM fz f a i mid d) (symM_ok _ _ _ _ hd) (by omega) (by omega) (by omega) (by omega)) (by simp [PV.ids, id1, getH, Blk.inL, Cells.inL, inL1]) (by simp [PV.inL, inL1]) (by simp) ?_)) | (refine .inr (hcl_mk (ih mid en b d hd (by omega) (by omega) (by omega) (by omega)) (by simp [PV.ids, id1, getH, Blk.inL, Cells.inL, inL1]) (by simp [PV.inL, inL1]) (by simp) ?_))
        try simp (maxSteps := 1000000) [tn2, tn3, tn1, tnh, tnp, cmI_lt]
        simp [fnPostH, PV.inR, inR1, PV.inL, inL1, Blk.inL, Cells.inL, put_at, Try.results121, resP, tupOf]
        rw [symM_3 (by omega) (by omega) hmid hI hen]
        repeat' split
        all_goals (first | rfl | omega)
       ·clear hC80
        try simp at hc80
        refine swp_skip ?_
        try simp only [thn, inBlk]
        simp [fnPostH, PV.inR, inR1, PV.inL, inL1, Blk.inL, Cells.inL, put_at, Try.results121, resP, tupOf]
        rw [symM_3 (by omega) (by omega) hmid hI hen]
        repeat' split
        all_goals (first | rfl | omega)
      ·clear hC77
       try simp at hc77
       refine swp_skip ?_
       try simp only [thn, inBlk]
       refine hK75 _ ?_; clear hK75
       refine swp_seq fun K82 hK82 => ?_
       refine swp_region ty_ok ?_
       try simp (maxSteps := 1000000) [tn2, tn3, tn1, tnh, tnp, cmI_lt]
       repeat' (first | apply And.intro | intro _)
       any_goals (first | (refine hK82 _ ?_; clear hK82) | omega | (simp_all <;> omega))
       refine swp_if fun C83 hC83 => ?_
       try simp (maxSteps := 1000000) [tn2, tn3, tn1, tnh, tnp, cmI_lt]
       refine hC83 _ (fun hc83 => ?_) (fun hc83 => ?_)
       ·clear hC83
        try simp at hc83
        refine swp_region ty_ok ?_
        refine runs_cut 5 fun R84 hR84 => ?_
        try simp (maxSteps := 1000000) [tn2, tn3, tn1, tnh, tnp, cmI_lt, List.take_succ_cons, List.take_zero, List.drop_succ_cons, List.drop_zero]
        repeat' (first | apply And.intro | intro _)
        any_goals (first | (refine hR84 _ ?_; clear hR84) | omega | (simp_all <;> omega))
        try simp (maxSteps := 1000000) [tn2, tn3, tn1, tnh, tnp, cmI_lt, List.take_succ_cons, List.take_zero, List.drop_succ_cons, List.drop_zero]
        first | (have hq0 : i < m ∧ m < en := (by assumption); have hq1 : a < i ∧ i < mid := (by assumption); refine .inr (hcl_mk (ih mid en b (symM fz f a i mid (rot m (en - i) (m - i) (en - m) d)) (symM_ok _ _ _ _ (rot_ok _ _ _ hd)) (by omega) (by omega) (by omega) (by omega)) (by simp [PV.ids, id1, getH, Blk.inL, Cells.inL, inL1]) (by simp [PV.inL, inL1]) (by simp) ?_)) | (have hq0 : i < m ∧ m < en := (by assumption); refine .inr (hcl_mk (ih mid en b (rot m (en - i) (m - i) (en - m) d) (rot_ok _ _ _ hd) (by omega) (by omega) (by omega) (by omega)) (by simp [PV.ids, id1, getH, Blk.inL, Cells.inL, inL1]) (by simp [PV.inL, inL1]) (by simp) ?_)) | (have hq1 : a < i ∧ i < mid := (by assumption); refine .inr (hcl_mk (ih mid en b (symM fz f a i mid d) (symM_ok _ _ _ _ hd) (by omega) (by omega) (by omega) (by omega)) (by simp [PV.ids, id1, getH, Blk.inL, Cells.inL, inL1]) (by simp [PV.inL, inL1]) (by simp) ?_)) | (refine .inr (hcl_mk (ih mid en b d hd (by omega) (by omega) (by omega) (by omega)) (by simp [PV.ids, id1, getH, Blk.inL, Cells.inL, inL1]) (by simp [PV.inL, inL1]) (by simp) ?_))
        try simp (maxSteps := 1000000) [tn2, tn3, tn1, tnh, tnp, cmI_lt]
        simp [fnPostH, PV.inR, inR1, PV.inL, inL1, Blk.inL, Cells.inL, put_at, Try.results121, resP, tupOf]
        rw [symM_3 (by omega) (by omega) hmid hI hen]
        repeat' split
        all_goals (first | rfl | omega)
       ·clear hC83
        try simp at hc83
        refine swp_skip ?_
        try simp only [thn, inBlk]
        simp [fnPostH, PV.inR, inR1, PV.inL, inL1, Blk.inL, Cells.inL, put_at, Try.results121, resP, tupOf]
        rw [symM_3 (by omega) (by omega) hmid hI hen]
        repeat' split
        all_goals (first | rfl | omega)
     ·clear hC73
      try simp at hc73
      refine swp_skip ?_
      try simp only [thn, inBlk]
      refine hK71 _ ?_; clear hK71
      refine swp_seq fun K85 hK85 => ?_
      refine swp_seq fun K86 hK86 => ?_
      refine swp_region ty_ok ?_
      try simp (maxSteps := 1000000) [tn2, tn3, tn1, tnh, tnp, cmI_lt]
      repeat' (first | apply And.intro | intro _)
      any_goals (first | (refine hK86 _ ?_; clear hK86) | omega | (simp_all <;> omega))
      refine swp_if fun C87 hC87 => ?_
      try simp (maxSteps := 1000000) [tn2, tn3, tn1, tnh, tnp, cmI_lt]
      refine hC87 _ (fun hc87 => ?_) (fun hc87 => ?_)
      ·clear hC87
       try simp at hc87
       refine swp_region ty_ok ?_
       refine runs_cut 5 fun R88 hR88 => ?_
       try simp (maxSteps := 1000000) [tn2, tn3, tn1, tnh, tnp, cmI_lt, List.take_succ_cons, List.take_zero, List.drop_succ_cons, List.drop_zero]
       repeat' (first | apply And.intro | intro _)
       any_goals (first | (refine hR88 _ ?_; clear hR88) | omega | (simp_all <;> omega))
       try simp (maxSteps := 1000000) [tn2, tn3, tn1, tnh, tnp, cmI_lt, List.take_succ_cons, List.take_zero, List.drop_succ_cons, List.drop_zero]
       first | (have hq0 : i < m ∧ m < en := (by assumption); refine .inr (hcl_mk (ih a i mid (rot m (en - i) (m - i) (en - m) d) (rot_ok _ _ _ hd) (by omega) (by omega) (by omega) (by omega)) (by simp [PV.ids, id1, getH, Blk.inL, Cells.inL, inL1]) (by simp [PV.inL, inL1]) (by simp) ?_)) | (refine .inr (hcl_mk (ih a i mid d hd (by omega) (by omega) (by omega) (by omega)) (by simp [PV.ids, id1, getH, Blk.inL, Cells.inL, inL1]) (by simp [PV.inL, inL1]) (by simp) ?_))
       try simp (maxSteps := 1000000) [tn2, tn3, tn1, tnh, tnp, cmI_lt]
       repeat' (first | apply And.intro | intro _)
       any_goals (first | (refine hK85 _ ?_; clear hK85) | omega | (simp_all <;> omega))
       refine swp_seq fun K89 hK89 => ?_
       refine swp_region ty_ok ?_
       try simp (maxSteps := 1000000) [tn2, tn3, tn1, tnh, tnp, cmI_lt]
       repeat' (first | apply And.intro | intro _)
       any_goals (first | (refine hK89 _ ?_; clear hK89) | omega | (simp_all <;> omega))
       refine swp_if fun C90 hC90 => ?_
       try simp (maxSteps := 1000000) [tn2, tn3, tn1, tnh, tnp, cmI_lt]
       refine hC90 _ (fun hc90 => ?_) (fun hc90 => ?_)
       ·clear hC90
        try simp at hc90
        refine swp_region ty_ok ?_
        refine runs_cut 5 fun R91 hR91 => ?_
        try simp (maxSteps := 1000000) [tn2, tn3, tn1, tnh, tnp, cmI_lt, List.take_succ_cons, List.take_zero, List.drop_succ_cons, List.drop_zero]
        repeat' (first | apply And.intro | intro _)
        any_goals (first | (refine hR91 _ ?_; clear hR91) | omega | (simp_all <;> omega))
        try simp (maxSteps := 1000000) [tn2, tn3, tn1, tnh, tnp, cmI_lt, List.take_succ_cons, List.take_zero, List.drop_succ_cons, List.drop_zero]
        first | (have hq0 : i < m ∧ m < en := (by assumption); have hq1 : a < i ∧ i < mid := (by assumption); refine .inr (hcl_mk (ih mid en b (symM fz f a i mid (rot m (en - i) (m - i) (en - m) d)) (symM_ok _ _ _ _ (rot_ok _ _ _ hd)) (by omega) (by omega) (by omega) (by omega)) (by simp [PV.ids, id1, getH, Blk.inL, Cells.inL, inL1]) (by simp [PV.inL, inL1]) (by simp) ?_)) | (have hq0 : i < m ∧ m < en := (by assumption); refine .inr (hcl_mk (ih mid en b (rot m (en - i) (m - i) (en - m) d) (rot_ok _ _ _ hd) (by omega) (by omega) (by omega) (by omega)) (by simp [PV.ids, id1, getH, Blk.inL, Cells.inL, inL1]) (by simp [PV.inL, inL1]) (by simp) ?_)) | (have hq1 : a < i ∧ i < mid := (by assumption); refine .inr (hcl_mk (ih mid en b (symM fz f a i mid d) (symM_ok _ _ _ _ hd) (by omega) (by omega) (by omega) (by omega)) (by simp [PV.ids, id1, getH, Blk.inL, Cells.inL, inL1]) (by simp [PV.inL, inL1]) (by simp) ?_)) | (refine .inr (hcl_mk (ih mid en b d hd (by omega) (by omega) (by omega) (by omega)) (by simp [PV.ids, id1, getH, Blk.inL, Cells.inL, inL1]) (by simp [PV.inL, inL1]) (by simp) ?_))
        try simp (maxSteps := 1000000) [tn2, tn3, tn1, tnh, tnp, cmI_lt]
        simp [fnPostH, PV.inR, inR1, PV.inL, inL1, Blk.inL, Cells.inL, put_at, Try.results121, resP, tupOf]
        rw [symM_3 (by omega) (by omega) hmid hI hen]
        repeat' split
        all_goals (first | rfl | omega)
       ·clear hC90
        try simp at hc90
        refine swp_skip ?_
        try simp only [thn, inBlk]
        simp [fnPostH, PV.inR, inR1, PV.inL, inL1, Blk.inL, Cells.inL, put_at, Try.results121, resP, tupOf]
        rw [symM_3 (by omega) (by omega) hmid hI hen]
        repeat' split
        all_goals (first | rfl | omega)
      ·clear hC87
       try simp at hc87
       refine swp_skip ?_
       try simp only [thn, inBlk]
       refine hK85 _ ?_; clear hK85
       refine swp_seq fun K92 hK92 => ?_
       refine swp_region ty_ok ?_
       try simp (maxSteps := 1000000) [tn2, tn3, tn1, tnh, tnp, cmI_lt]
       repeat' (first | apply And.intro | intro _)
       any_goals (first | (refine hK92 _ ?_; clear hK92) | omega | (simp_all <;> omega))
       refine swp_if fun C93 hC93 => ?_
       try simp (maxSteps := 1000000) [tn2, tn3, tn1, tnh, tnp, cmI_lt]
       refine hC93 _ (fun hc93 => ?_) (fun hc93 => ?_)
       ·clear hC93
        try simp at hc93
        refine swp_region ty_ok ?_
        refine runs_cut 5 fun R94 hR94 => ?_
        try simp (maxSteps := 1000000) [tn2, tn3, tn1, tnh, tnp, cmI_lt, List.take_succ_cons, List.take_zero, List.drop_succ_cons, List.drop_zero]
        repeat' (first | apply And.intro | intro _)
        any_goals (first | (refine hR94 _ ?_; clear hR94) | omega | (simp_all <;> omega))
        try simp (maxSteps := 1000000) [tn2, tn3, tn1, tnh, tnp, cmI_lt, List.take_succ_cons, List.take_zero, List.drop_succ_cons, List.drop_zero]
        first | (have hq0 : i < m ∧ m < en := (by assumption); have hq1 : a < i ∧ i < mid := (by assumption); refine .inr (hcl_mk (ih mid en b (symM fz f a i mid (rot m (en - i) (m - i) (en - m) d)) (symM_ok _ _ _ _ (rot_ok _ _ _ hd)) (by omega) (by omega) (by omega) (by omega)) (by simp [PV.ids, id1, getH, Blk.inL, Cells.inL, inL1]) (by simp [PV.inL, inL1]) (by simp) ?_)) | (have hq0 : i < m ∧ m < en := (by assumption); refine .inr (hcl_mk (ih mid en b (rot m (en - i) (m - i) (en - m) d) (rot_ok _ _ _ hd) (by omega) (by omega) (by omega) (by omega)) (by simp [PV.ids, id1, getH, Blk.inL, Cells.inL, inL1]) (by simp [PV.inL, inL1]) (by simp) ?_)) | (have hq1 : a < i ∧ i < mid := (by assumption); refine .inr (hcl_mk (ih mid en b (symM fz f a i mid d) (symM_ok _ _ _ _ hd) (by omega) (by omega) (by omega) (by omega)) (by simp [PV.ids, id1, getH, Blk.inL, Cells.inL, inL1]) (by simp [PV.inL, inL1]) (by simp) ?_)) | (refine .inr (hcl_mk (ih mid en b d hd (by omega) (by omega) (by omega) (by omega)) (by simp [PV.ids, id1, getH, Blk.inL, Cells.inL, inL1]) (by simp [PV.inL, inL1]) (by simp) ?_))
        try simp (maxSteps := 1000000) [tn2, tn3, tn1, tnh, tnp, cmI_lt]
        simp [fnPostH, PV.inR, inR1, PV.inL, inL1, Blk.inL, Cells.inL, put_at, Try.results121, resP, tupOf]
        rw [symM_3 (by omega) (by omega) hmid hI hen]
        repeat' split
        all_goals (first | rfl | omega)
       ·clear hC93
        try simp at hc93
        refine swp_skip ?_
        try simp only [thn, inBlk]
        simp [fnPostH, PV.inR, inR1, PV.inL, inL1, Blk.inL, Cells.inL, put_at, Try.results121, resP, tupOf]
        rw [symM_3 (by omega) (by omega) hmid hI hen]
        repeat' split
        all_goals (first | rfl | omega)
   ·clear hC56
    try simp at hc56
    refine swp_seq fun K95 hK95 => ?_
    have hs0v : s0 = a := by rw [← hs0, sS, if_neg (by have h := hc56; omega)]
    have hr0v : r0 = m := by rw [← hr0, sR, if_neg (by have h := hc56; omega)]
    refine swp_region ty_ok ?_
    try simp (maxSteps := 1000000) [tn2, tn3, tn1, tnh, tnp, cmI_lt]
    repeat' (first | apply And.intro | intro _)
    any_goals (first | (refine hK95 _ ?_; clear hK95) | omega | (simp_all <;> omega))
    refine swp_region ty_ok ?_
    try simp (maxSteps := 1000000) [tn2, tn3, tn1, tnh, tnp, cmI_lt]
    repeat' (first | apply And.intro | intro _)
    any_goals (first | (refine hK54 _ ?_; clear hK54) | omega | (simp_all <;> omega))
    refine swp_seq fun K96 hK96 => ?_
    refine swp_region ty_ok ?_
    try simp (maxSteps := 1000000) [tn2, tn3, tn1, tnh, tnp, cmI_lt, hpw]
    repeat' (first | apply And.intro | intro _)
    any_goals (first | (refine hK96 _ ?_; clear hK96) | omega | (simp_all <;> omega))
    refine swp_seq fun K97 hK97 => ?_
    refine swp_block ?_
    refine swp_loop 99 (fun m_ s_ => ∃ (f2 : Nat) (i : Nat) (j : Nat), (j ≤ i + f2) ∧ (s0 ≤ i) ∧ (i ≤ j) ∧ (j ≤ r0) ∧ (bis (tC fz d p) f2 i j = bis (tC fz d p) (r0 - s0) s0 r0) ∧ s_ = ⟨[(0, .sl 42 0 N N), (1, .int .i64 (a : Nat)), (2, .int .i64 (m : Nat)), (3, .int .i64 (b : Nat)), (4, .fn 73 [.ptr 98 0 0 1]), (18, .int .i64 (mid : Nat)), (19, .int .i64 (nn : Nat)), (22, .int .i64 (p : Nat)), (20, .int .i64 (i : Nat)), (21, .int .i64 (j : Nat))], [(42, some ⟨.ints .i64 d, false, 3⟩), (98, some ⟨.rows 289 [zs.map (PV.int .u8)], true, 118⟩)], 99⟩ ∧ m_ = f2 + 1) _ ⟨[(0, .sl 42 0 N N), (1, .int .i64 (a : Nat)), (2, .int .i64 (m : Nat)), (3, .int .i64 (b : Nat)), (4, .fn 73 [.ptr 98 0 0 1]), (18, .int .i64 (mid : Nat)), (19, .int .i64 (nn : Nat)), (22, .int .i64 (p : Nat)), (20, .int .i64 (s0 : Nat)), (21, .int .i64 (r0 : Nat))], [(42, some ⟨.ints .i64 d, false, 3⟩), (98, some ⟨.rows 289 [zs.map (PV.int .u8)], true, 118⟩)], 99⟩ ⟨by simp [getT, PV.lo, lo1, hs0v, hr0v], by simp [getH, Blk.lo, Cells.lo, lo1], rfl, by omega⟩ ⟨(r0 - s0), (s0), (r0), by omega, by omega, by omega, by omega, by rfl, rfl, rfl⟩ ?_
    rintro m_ s_ ⟨f2, i, j, hL98_0, hL98_1, hL98_2, hL98_3, hL98_4, rfl, rfl⟩ KL98 hL98
    have hR := (by assumption : bis (tC fz d p) f2 i j = bis (tC fz d p) (r0 - s0) s0 r0)
    refine swp_seq fun K99 hK99 => ?_
    refine swp_seq fun K100 hK100 => ?_
    refine swp_region ty_ok ?_
    try simp (maxSteps := 1000000) [tn2, tn3, tn1, tnh, tnp, cmI_lt]
    repeat' (first | apply And.intro | intro _)
    any_goals (first | (refine hK100 _ ?_; clear hK100) | omega | (simp_all <;> omega))
    refine swp_if fun C101 hC101 => ?_
    try simp (maxSteps := 1000000) [tn2, tn3, tn1, tnh, tnp, cmI_lt]
    refine hC101 _ (fun hc101 => ?_) (fun hc101 => ?_)
    ·clear hC101
     try simp at hc101
     refine swp_skip ?_
     try simp only [thn, inBlk]
     refine hK99 _ ?_; clear hK99
     refine swp_block ?_
     refine swp_seq fun K102 hK102 => ?_
     have hadd := wadd (a := i) (b := j) (by omega)
     have hhalf := whalf2 (a := i) (b := j) (by omega)
     rw [Int.natCast_add] at hadd
     have hh1 := wnext (i := (i + j) / 2) (by omega)
     rw [show (((i + j) / 2 : Nat) : Int) = ((i : Int) + (j : Int)) / 2 by omega] at hh1
     refine swp_region ty_ok ?_
     try simp (maxSteps := 1000000) [tn2, tn3, tn1, tnh, tnp, cmI_lt, hadd, hhalf]
     repeat' (first | apply And.intro | intro _)
     any_goals (first | (refine hK102 _ ?_; clear hK102) | omega | (simp_all <;> omega))
     refine swp_seq fun K103 hK103 => ?_
     have hpc := wsub (a := p) (b := (i + j) / 2) (by omega) (by omega)
     rw [show (((i + j) / 2 : Nat) : Int) = ((i : Int) + (j : Int)) / 2 by omega] at hpc
     have hx1 := hd.el (p - (i + j) / 2)
     have hx2 := hd.el ((i + j) / 2)
     refine swp_draw ty_ok mixed (ms := [0, 0, 0, 0, 12, 30, 62, 0, 0, 384, 896, 2047, 4095, 8191]) (by kernel_rfl) ?_
     refine runD_cut 11 fun R104 hR104 => ?_
     try simp (maxSteps := 1000000) [tn2, tn3, tn1, tnh, tnp, cmI_lt, hpc, List.take_succ_cons, List.take_zero, List.drop_succ_cons, List.drop_zero]
     repeat' (first | apply And.intro | intro _)
     any_goals (first | (refine hR104 _ _ _ _ ?_; clear hR104) | omega | (simp_all <;> omega))
     refine runD_cut 1 fun R105 hR105 => ?_
     try simp (maxSteps := 1000000) [tn2, tn3, tn1, tnh, tnp, cmI_lt, hpc, List.take_succ_cons, List.take_zero, List.drop_succ_cons, List.drop_zero]
     refine .inl ⟨_, hC.call _ _ hx1 hx2, ?_⟩
     try simp (maxSteps := 1000000) [tn2, tn3, tn1, tnh, tnp, cmI_lt, hpc]
     repeat' (first | apply And.intro | intro _)
     any_goals (first | (refine hR105 _ _ _ _ ?_; clear hR105) | omega | (simp_all <;> omega))
     try simp (maxSteps := 1000000) [tn2, tn3, tn1, tnh, tnp, cmI_lt, hpc, List.take_succ_cons, List.take_zero, List.drop_succ_cons, List.drop_zero]
     repeat' (first | apply And.intro | intro _)
     any_goals (first | kernel_rfl | (refine hK103 _ ?_; clear hK103) | omega | (simp_all <;> omega))
     refine swp_if fun C107 hC107 => ?_
     try simp (maxSteps := 1000000) [tn2, tn3, tn1, tnh, tnp, cmI_lt, hpc]
     refine hC107 _ (fun hc107 => ?_) (fun hc107 => ?_)
     ·clear hC107
      try simp at hc107
      refine swp_region ty_ok ?_
      try simp (maxSteps := 1000000) [tn2, tn3, tn1, tnh, tnp, cmI_lt, hh1]
      repeat' apply And.intro
      any_goals (try omega)
      first | refine hL98 _ ⟨[(0, .sl 42 0 N N), (1, .int .i64 (a : Nat)), (2, .int .i64 (m : Nat)), (3, .int .i64 (b : Nat)), (4, .fn 73 [.ptr 98 0 0 1]), (18, .int .i64 (mid : Nat)), (19, .int .i64 (nn : Nat)), (22, .int .i64 (p : Nat)), (20, .int .i64 ((i + j) / 2 + 1 : Nat)), (21, .int .i64 (j : Nat))], [(42, some ⟨.ints .i64 d, false, 3⟩), (98, some ⟨.rows 289 [zs.map (PV.int .u8)], true, 118⟩)], 99⟩ _ ?_ ⟨(f2 - 1), ((i + j) / 2 + 1), (j), by omega, by omega, by omega, by omega, by (first | exact (bis_y (by omega) (by omega) (by have h := hc107; simpa [tC] using h)).symm.trans hR | exact (bis_n (by omega) (by omega) (by have h := hc107; simpa [tC] using h)).symm.trans hR), rfl, rfl⟩ ⟨by simp [getT, PV.lo, lo1, hh1], by simp [getH, Blk.lo, Cells.lo, lo1], rfl, by omega⟩ | refine hL98 _ ⟨[(0, .sl 42 0 N N), (1, .int .i64 (a : Nat)), (2, .int .i64 (m : Nat)), (3, .int .i64 (b : Nat)), (4, .fn 73 [.ptr 98 0 0 1]), (18, .int .i64 (mid : Nat)), (19, .int .i64 (nn : Nat)), (22, .int .i64 (p : Nat)), (20, .int .i64 (i : Nat)), (21, .int .i64 ((i + j) / 2 : Nat))], [(42, some ⟨.ints .i64 d, false, 3⟩), (98, some ⟨.rows 289 [zs.map (PV.int .u8)], true, 118⟩)], 99⟩ _ ?_ ⟨(f2 - 1), (i), ((i + j) / 2), by omega, by omega, by omega, by omega, by (first | exact (bis_y (by omega) (by omega) (by have h := hc107; simpa [tC] using h)).symm.trans hR | exact (bis_n (by omega) (by omega) (by have h := hc107; simpa [tC] using h)).symm.trans hR), rfl, rfl⟩ ⟨by simp [getT, PV.lo, lo1, hh1], by simp [getH, Blk.lo, Cells.lo, lo1], rfl, by omega⟩
      omega
     ·clear hC107
      try simp at hc107
      refine swp_region ty_ok ?_
      try simp (maxSteps := 1000000) [tn2, tn3, tn1, tnh, tnp, cmI_lt]
      repeat' apply And.intro
      any_goals (try omega)
      first | refine hL98 _ ⟨[(0, .sl 42 0 N N), (1, .int .i64 (a : Nat)), (2, .int .i64 (m : Nat)), (3, .int .i64 (b : Nat)), (4, .fn 73 [.ptr 98 0 0 1]), (18, .int .i64 (mid : Nat)), (19, .int .i64 (nn : Nat)), (22, .int .i64 (p : Nat)), (20, .int .i64 ((i + j) / 2 + 1 : Nat)), (21, .int .i64 (j : Nat))], [(42, some ⟨.ints .i64 d, false, 3⟩), (98, some ⟨.rows 289 [zs.map (PV.int .u8)], true, 118⟩)], 99⟩ _ ?_ ⟨(f2 - 1), ((i + j) / 2 + 1), (j), by omega, by omega, by omega, by omega, by (first | exact (bis_y (by omega) (by omega) (by have h := hc107; simpa [tC] using h)).symm.trans hR | exact (bis_n (by omega) (by omega) (by have h := hc107; simpa [tC] using h)).symm.trans hR), rfl, rfl⟩ ⟨by simp [getT, PV.lo, lo1, hh1], by simp [getH, Blk.lo, Cells.lo, lo1], rfl, by omega⟩ | refine hL98 _ ⟨[(0, .sl 42 0 N N), (1, .int .i64 (a : Nat)), (2, .int .i64 (m : Nat)), (3, .int .i64 (b : Nat)), (4, .fn 73 [.ptr 98 0 0 1]), (18, .int .i64 (mid : Nat)), (19, .int .i64 (nn : Nat)), (22, .int .i64 (p : Nat)), (20, .int .i64 (i : Nat)), (21, .int .i64 ((i + j) / 2 : Nat))], [(42, some ⟨.ints .i64 d, false, 3⟩), (98, some ⟨.rows 289 [zs.map (PV.int .u8)], true, 118⟩)], 99⟩ _ ?_ ⟨(f2 - 1), (i), ((i + j) / 2), by omega, by omega, by omega, by omega, by (first | exact (bis_y (by omega) (by omega) (by have h := hc107; simpa [tC] using h)).symm.trans hR | exact (bis_n (by omega) (by omega) (by have h := hc107; simpa [tC] using h)).symm.trans hR), rfl, rfl⟩ ⟨by simp [getT, PV.lo, lo1, hh1], by simp [getH, Blk.lo, Cells.lo, lo1], rfl, by omega⟩
      omega
    ·clear hC101
     try simp at hc101
     refine swp_exit ?_
     simp [thn, inBlk]
     refine hK97 _ ?_; clear hK97
     refine swp_seq fun K108 hK108 => ?_
     have hI : sI fz a m b d = i := hsI.trans (hR.symm.trans (bis_e (by omega)))
     obtain ⟨en, hen⟩ : ∃ x, x = mid + m - i := ⟨_, rfl⟩
     have hew := wsub (a := nn) (b := i) (by omega) (by omega)
     rw [show nn - i = en by omega] at hew
     refine swp_region ty_ok ?_
     try simp (maxSteps := 1000000) [tn2, tn3, tn1, tnh, tnp, cmI_lt, hew]
     repeat' (first | apply And.intro | intro _)
     any_goals (first | (refine hK108 _ ?_; clear hK108) | omega | (simp_all <;> omega))
     refine swp_seq fun K109 hK109 => ?_
     refine swp_seq fun K110 hK110 => ?_
     refine swp_region ty_ok ?_
     try simp (maxSteps := 1000000) [tn2, tn3, tn1, tnh, tnp, cmI_lt]
     repeat' (first | apply And.intro | intro _)
     any_goals (first | (refine hK110 _ ?_; clear hK110) | omega | (simp_all <;> omega))
     refine swp_if fun C111 hC111 => ?_
     try simp (maxSteps := 1000000) [tn2, tn3, tn1, tnh, tnp, cmI_lt]
     refine hC111 _ (fun hc111 => ?_) (fun hc111 => ?_)
     ·clear hC111
      try simp at hc111
      refine swp_region ty_ok ?_
      refine runs_cut 5 fun R112 hR112 => ?_
      try simp (maxSteps := 1000000) [tn2, tn3, tn1, tnh, tnp, cmI_lt, List.take_succ_cons, List.take_zero, List.drop_succ_cons, List.drop_zero]
      repeat' (first | apply And.intro | intro _)
      any_goals (first | (refine hR112 _ ?_; clear hR112) | omega | (simp_all <;> omega))
      try simp (maxSteps := 1000000) [tn2, tn3, tn1, tnh, tnp, cmI_lt, List.take_succ_cons, List.take_zero, List.drop_succ_cons, List.drop_zero]
      refine .inr (hcl_mk (rot_w N hN fz zs hC d hd i m en (by omega) (by omega) (by omega)) (by simp [PV.ids, id1, getH, Blk.inL, Cells.inL, inL1]) (by simp [PV.inL, inL1]) (by simp) ?_)
      try simp (maxSteps := 1000000) [tn2, tn3, tn1, tnh, tnp, cmI_lt]
      repeat' (first | apply And.intro | intro _)
      any_goals (first | (refine hK109 _ ?_; clear hK109) | omega | (simp_all <;> omega))
      refine swp_seq fun K113 hK113 => ?_
      refine swp_seq fun K114 hK114 => ?_
      refine swp_region ty_ok ?_
      try simp (maxSteps := 1000000) [tn2, tn3, tn1, tnh, tnp, cmI_lt]
      repeat' (first | apply And.intro | intro _)
      any_goals (first | (refine hK114 _ ?_; clear hK114) | omega | (simp_all <;> omega))
      refine swp_if fun C115 hC115 => ?_
      try simp (maxSteps := 1000000) [tn2, tn3, tn1, tnh, tnp, cmI_lt]
      refine hC115 _ (fun hc115 => ?_) (fun hc115 => ?_)
      ·clear hC115
       try simp at hc115
       refine swp_region ty_ok ?_
       refine runs_cut 5 fun R116 hR116 => ?_
       try simp (maxSteps := 1000000) [tn2, tn3, tn1, tnh, tnp, cmI_lt, List.take_succ_cons, List.take_zero, List.drop_succ_cons, List.drop_zero]
       repeat' (first | apply And.intro | intro _)
       any_goals (first | (refine hR116 _ ?_; clear hR116) | omega | (simp_all <;> omega))
       try simp (maxSteps := 1000000) [tn2, tn3, tn1, tnh, tnp, cmI_lt, List.take_succ_cons, List.take_zero, List.drop_succ_cons, List.drop_zero]
       first | (have hq0 : i < m ∧ m < en := (by assumption); refine .inr (hcl_mk (ih a i mid (rot m (en - i) (m - i) (en - m) d) (rot_ok _ _ _ hd) (by omega) (by omega) (by omega) (by omega)) (by simp [PV.ids, id1, getH, Blk.inL, Cells.inL, inL1]) (by simp [PV.inL, inL1]) (by simp) ?_)) | (refine .inr (hcl_mk (ih a i mid d hd (by omega) (by omega) (by omega) (by omega)) (by simp [PV.ids, id1, getH, Blk.inL, Cells.inL, inL1]) (by simp [PV.inL, inL1]) (by simp) ?_))
       try simp (maxSteps := 1000000) [tn2, tn3, tn1, tnh, tnp, cmI_lt]
       repeat' (first | apply And.intro | intro _)
       any_goals (first | (refine hK113 _ ?_; clear hK113) | omega | (simp_all <;> omega))
       refine swp_seq fun K117 hK117 => ?_
       refine swp_region ty_ok ?_
       try simp (maxSteps := 1000000) [tn2, tn3, tn1, tnh, tnp, cmI_lt]
       repeat' (first | apply And.intro | intro _)
       any_goals (first | (refine hK117 _ ?_; clear hK117) | omega | (simp_all <;> omega))
       refine swp_if fun C118 hC118 => ?_
       try simp (maxSteps := 1000000) [tn2, tn3, tn1, tnh, tnp, cmI_lt]
       refine hC118 _ (fun hc118 => ?_) (fun hc118 => ?_)
       ·clear hC118
        try simp at hc118
        refine swp_region ty_ok ?_
        refine runs_cut 5 fun R119 hR119 => ?_
        try simp (maxSteps := 1000000) [tn2, tn3, tn1, tnh, tnp, cmI_lt, List.take_succ_cons, List.take_zero, List.drop_succ_cons, List.drop_zero]
        repeat' (first | apply And.intro | intro _)
        any_goals (first | (refine hR119 _ ?_; clear hR119) | omega | (simp_all <;> omega))
        try simp (maxSteps := 1000000) [tn2, tn3, tn1, tnh, tnp, cmI_lt, List.take_succ_cons, List.take_zero, List.drop_succ_cons, List.drop_zero]
        first | (have hq0 : i < m ∧ m < en := (by assumption); have hq1 : a < i ∧ i < mid := (by assumption); refine .inr (hcl_mk (ih mid en b (symM fz f a i mid (rot m (en - i) (m - i) (en - m) d)) (symM_ok _ _ _ _ (rot_ok _ _ _ hd)) (by omega) (by omega) (by omega) (by omega)) (by simp [PV.ids, id1, getH, Blk.inL, Cells.inL, inL1]) (by simp [PV.inL, inL1]) (by simp) ?_)) | (have hq0 : i < m ∧ m < en := (by assumption); refine .inr (hcl_mk (ih mid en b (rot m (en - i) (m - i) (en - m) d) (rot_ok _ _ _ hd) (by omega) (by omega) (by omega) (by omega)) (by simp [PV.ids, id1, getH, Blk.inL, Cells.inL, inL1]) (by simp [PV.inL, inL1]) (by simp) ?_)) | (have hq1 : a < i ∧ i < mid := (by assumption); refine .inr (hcl_mk (ih mid en b (symM fz f a i mid d) (symM_ok _ _ _ _ hd) (by omega) (by omega) (by omega) (by omega)) (by simp [PV.ids, id1, getH, Blk.inL, Cells.inL, inL1]) (by simp [PV.inL, inL1]) (by simp) ?_)) | (refine .inr (hcl_mk (ih mid en b d hd (by omega) (by omega) (by omega) (by omega)) (by simp [PV.ids, id1, getH, Blk.inL, Cells.inL, inL1]) (by simp [PV.inL, inL1]) (by simp) ?_))
        try simp (maxSteps := 1000000) [tn2, tn3, tn1, tnh, tnp, cmI_lt]
        simp [fnPostH, PV.inR, inR1, PV.inL, inL1, Blk.inL, Cells.inL, put_at, Try.results121, resP, tupOf]
        rw [symM_3 (by omega) (by omega) hmid hI hen]
        repeat' split
        all_goals (first | rfl | omega)
       ·clear hC118
        try simp at hc118
        refine swp_skip ?_
        try simp only [thn, inBlk]
        simp [fnPostH, PV.inR, inR1, PV.inL, inL1, Blk.inL, Cells.inL, put_at, Try.results121, resP, tupOf]
        rw [symM_3 (by omega) (by omega) hmid hI hen]
        repeat' split
        all_goals (first | rfl | omega)
      ·clear hC115
       try simp at hc115
       refine swp_skip ?_
       try simp only [thn, inBlk]
       refine hK113 _ ?_; clear hK113
       refine swp_seq fun K120 hK120 => ?_
       refine swp_region ty_ok ?_
       try simp (maxSteps := 1000000) [tn2, tn3, tn1, tnh, tnp, cmI_lt]
       repeat' (first | apply And.intro | intro _)
       any_goals (first | (refine hK120 _ ?_; clear hK120) | omega | (simp_all <;> omega))
       refine swp_if fun C121 hC121 => ?_
       try simp (maxSteps := 1000000) [tn2, tn3, tn1, tnh, tnp, cmI_lt]
       refine hC121 _ (fun hc121 => ?_) (fun hc121 => ?_)
       ·clear hC121
        try simp at hc121
        refine swp_region ty_ok ?_
        refine runs_cut 5 fun R122 hR122 => ?_
        try simp (maxSteps := 1000000) [tn2, tn3, tn1, tnh, tnp, cmI_lt, List.take_succ_cons, List.take_zero, List.drop_succ_cons, List.drop_zero]
        repeat' (first | apply And.intro | intro _)
        any_goals (first | (refine hR122 _ ?_; clear hR122) | omega | (simp_all <;> omega))
        try simp (maxSteps := 1000000) [tn2, tn3, tn1, tnh, tnp, cmI_lt, List.take_succ_cons, List.take_zero, List.drop_succ_cons, List.drop_zero]
        first | (have hq0 : i < m ∧ m < en := (by assumption); have hq1 : a < i ∧ i < mid := (by assumption); refine .inr (hcl_mk (ih mid en b (symM fz f a i mid (rot m (en - i) (m - i) (en - m) d)) (symM_ok _ _ _ _ (rot_ok _ _ _ hd)) (by omega) (by omega) (by omega) (by omega)) (by simp [PV.ids, id1, getH, Blk.inL, Cells.inL, inL1]) (by simp [PV.inL, inL1]) (by simp) ?_)) | (have hq0 : i < m ∧ m < en := (by assumption); refine .inr (hcl_mk (ih mid en b (rot m (en - i) (m - i) (en - m) d) (rot_ok _ _ _ hd) (by omega) (by omega) (by omega) (by omega)) (by simp [PV.ids, id1, getH, Blk.inL, Cells.inL, inL1]) (by simp [PV.inL, inL1]) (by simp) ?_)) | (have hq1 : a < i ∧ i < mid := (by assumption); refine .inr (hcl_mk (ih mid en b (symM fz f a i mid d) (symM_ok _ _ _ _ hd) (by omega) (by omega) (by omega) (by omega)) (by simp [PV.ids, id1, getH, Blk.inL, Cells.inL, inL1]) (by simp [PV.inL, inL1]) (by simp) ?_)) | (refine .inr (hcl_mk (ih mid en b d hd (by omega) (by omega) (by omega) (by omega)) (by simp [PV.ids, id1, getH, Blk.inL, Cells.inL, inL1]) (by simp [PV.inL, inL1]) (by simp) ?_))
        try simp (maxSteps := 1000000) [tn2, tn3, tn1, tnh, tnp, cmI_lt]
        simp [fnPostH, PV.inR, inR1, PV.inL, inL1, Blk.inL, Cells.inL, put_at, Try.results121, resP, tupOf]
        rw [symM_3 (by omega) (by omega) hmid hI hen]
        repeat' split
        all_goals (first | rfl | omega)
       ·clear hC121
        try simp at hc121
        refine swp_skip ?_
        try simp only [thn, inBlk]
        simp [fnPostH, PV.inR, inR1, PV.inL, inL1, Blk.inL, Cells.inL, put_at, Try.results121, resP, tupOf]
        rw [symM_3 (by omega) (by omega) hmid hI hen]
        repeat' split
        all_goals (first | rfl | omega)
     ·clear hC111
      try simp at hc111
      refine swp_skip ?_
      try simp only [thn, inBlk]
      refine hK109 _ ?_; clear hK109
      refine swp_seq fun K123 hK123 => ?_
      refine swp_seq fun K124 hK124 => ?_
      refine swp_region ty_ok ?_
      try simp (maxSteps := 1000000) [tn2, tn3, tn1, tnh, tnp, cmI_lt]
      repeat' (first | apply And.intro | intro _)
      any_goals (first | (refine hK124 _ ?_; clear hK124) | omega | (simp_all <;> omega))
      refine swp_if fun C125 hC125 => ?_
      try simp (maxSteps := 1000000) [tn2, tn3, tn1, tnh, tnp, cmI_lt]
      refine hC125 _ (fun hc125 => ?_) (fun hc125 => ?_)
      ·clear hC125
       try simp at hc125
       refine swp_region ty_ok ?_
       refine runs_cut 5 fun R126 hR126 => ?_
       try simp (maxSteps := 1000000) [tn2, tn3, tn1, tnh, tnp, cmI_lt, List.take_succ_cons, List.take_zero, List.drop_succ_cons, List.drop_zero]
       repeat' (first | apply And.intro | intro _)
       any_goals (first | (refine hR126 _ ?_; clear hR126) | omega | (simp_all <;> omega))
       try simp (maxSteps := 1000000) [tn2, tn3, tn1, tnh, tnp, cmI_lt, List.take_succ_cons, List.take_zero, List.drop_succ_cons, List.drop_zero]
       first | (have hq0 : i < m ∧ m < en := (by assumption); refine .inr (hcl_mk (ih a i mid (rot m (en - i) (m - i) (en - m) d) (rot_ok _ _ _ hd) (by omega) (by omega) (by omega) (by omega)) (by simp [PV.ids, id1, getH, Blk.inL, Cells.inL, inL1]) (by simp [PV.inL, inL1]) (by simp) ?_)) | (refine .inr (hcl_mk (ih a i mid d hd (by omega) (by omega) (by omega) (by omega)) (by simp [PV.ids, id1, getH, Blk.inL, Cells.inL, inL1]) (by simp [PV.inL, inL1]) (by simp) ?_))
       try simp (maxSteps := 1000000) [tn2, tn3, tn1, tnh, tnp, cmI_lt]
       repeat' (first | apply And.intro | intro _)
       any_goals (first | (refine hK123 _ ?_; clear hK123) | omega | (simp_all <;> omega))
       refine swp_seq fun K127 hK127 => ?_
       refine swp_region ty_ok ?_
       try simp (maxSteps := 1000000) [tn2, tn3, tn1, tnh, tnp, cmI_lt]
       repeat' (first | apply And.intro | intro _)
       any_goals (first | (refine hK127 _ ?_; clear hK127) | omega | (simp_all <;> omega))
       refine swp_if fun C128 hC128 => ?_
       try simp (maxSteps := 1000000) [tn2, tn3, tn1, tnh, tnp, cmI_lt]
       refine hC128 _ (fun hc128 => ?_) (fun hc128 => ?_)
       ·clear hC128
        try simp at hc128
        refine swp_region ty_ok ?_
        refine runs_cut 5 fun R129 hR129 => ?_
        try simp (maxSteps := 1000000) [tn2, tn3, tn1, tnh, tnp, cmI_lt, List.take_succ_cons, List.take_zero, List.drop_succ_cons, List.drop_zero]
        repeat' (first | apply And.intro | intro _)
        any_goals (first | (refine hR129 _ ?_; clear hR129) | omega | (simp_all <;> omega))
        try simp (maxSteps := 1000000) [tn2, tn3, tn1, tnh, tnp, cmI_lt, List.take_succ_cons, List.take_zero, List.drop_succ_cons, List.drop_zero]
        first | (have hq0 : i < m ∧ m < en := (by assumption); have hq1 : a < i ∧ i < mid := (by assumption); refine .inr (hcl_mk (ih mid en b (symM fz f a i mid (rot m (en - i) (m - i) (en - m) d)) (symM_ok _ _ _ _ (rot_ok _ _ _ hd)) (by omega) (by omega) (by omega) (by omega)) (by simp [PV.ids, id1, getH, Blk.inL, Cells.inL, inL1]) (by simp [PV.inL, inL1]) (by simp) ?_)) | (have hq0 : i < m ∧ m < en := (by assumption); refine .inr (hcl_mk (ih mid en b (rot m (en - i) (m - i) (en - m) d) (rot_ok _ _ _ hd) (by omega) (by omega) (by omega) (by omega)) (by simp [PV.ids, id1, getH, Blk.inL, Cells.inL, inL1]) (by simp [PV.inL, inL1]) (by simp) ?_)) | (have hq1 : a < i ∧ i < mid := (by assumption); refine .inr (hcl_mk (ih mid en b (symM fz f a i mid d) (symM_ok _ _ _ _ hd) (by omega) (by omega) (by omega) (by omega)) (by simp [PV.ids, id1, getH, Blk.inL, Cells.inL, inL1]) (by simp [PV.inL, inL1]) (by simp) ?_)) | (refine .inr (hcl_mk (ih mid en b d hd (by omega) (by omega) (by omega) (by omega)) (by simp [PV.ids, id1, getH, Blk.inL, Cells.inL, inL1]) (by simp [PV.inL, inL1]) (by simp) ?_))
        try simp (maxSteps := 1000000) [tn2, tn3, tn1, tnh, tnp, cmI_lt]
        simp [fnPostH, PV.inR, inR1, PV.inL, inL1, Blk.inL, Cells.inL, put_at, Try.results121, resP, tupOf]
        rw [symM_3 (by omega) (by omega) hmid hI hen]
        repeat' split
        all_goals (first | rfl | omega)
       ·clear hC128
        try simp at hc128
        refine swp_skip ?_
        try simp only [thn, inBlk]
        simp [fnPostH, PV.inR, inR1, PV.inL, inL1, Blk.inL, Cells.inL, put_at, Try.results121, resP, tupOf]
        rw [symM_3 (by omega) (by omega) hmid hI hen]
        repeat' split
        all_goals (first | rfl | omega)
      ·clear hC125
       try simp at hc125
       refine swp_skip ?_
       try simp only [thn, inBlk]
       refine hK123 _ ?_; clear hK123
       refine swp_seq fun K130 hK130 => ?_
       refine swp_region ty_ok ?_
       try simp (maxSteps := 1000000) [tn2, tn3, tn1, tnh, tnp, cmI_lt]
       repeat' (first | apply And.intro | intro _)
       any_goals (first | (refine hK130 _ ?_; clear hK130) | omega | (simp_all <;> omega))
       refine swp_if fun C131 hC131 => ?_
       try simp (maxSteps := 1000000) [tn2, tn3, tn1, tnh, tnp, cmI_lt]
       refine hC131 _ (fun hc131 => ?_) (fun hc131 => ?_)
       ·clear hC131
        try simp at hc131
        refine swp_region ty_ok ?_
        refine runs_cut 5 fun R132 hR132 => ?_
        try simp (maxSteps := 1000000) [tn2, tn3, tn1, tnh, tnp, cmI_lt, List.take_succ_cons, List.take_zero, List.drop_succ_cons, List.drop_zero]
        repeat' (first | apply And.intro | intro _)
        any_goals (first | (refine hR132 _ ?_; clear hR132) | omega | (simp_all <;> omega))
        try simp (maxSteps := 1000000) [tn2, tn3, tn1, tnh, tnp, cmI_lt, List.take_succ_cons, List.take_zero, List.drop_succ_cons, List.drop_zero]
        first | (have hq0 : i < m ∧ m < en := (by assumption); have hq1 : a < i ∧ i < mid := (by assumption); refine .inr (hcl_mk (ih mid en b (symM fz f a i mid (rot m (en - i) (m - i) (en - m) d)) (symM_ok _ _ _ _ (rot_ok _ _ _ hd)) (by omega) (by omega) (by omega) (by omega)) (by simp [PV.ids, id1, getH, Blk.inL, Cells.inL, inL1]) (by simp [PV.inL, inL1]) (by simp) ?_)) | (have hq0 : i < m ∧ m < en := (by assumption); refine .inr (hcl_mk (ih mid en b (rot m (en - i) (m - i) (en - m) d) (rot_ok _ _ _ hd) (by omega) (by omega) (by omega) (by omega)) (by simp [PV.ids, id1, getH, Blk.inL, Cells.inL, inL1]) (by simp [PV.inL, inL1]) (by simp) ?_)) | (have hq1 : a < i ∧ i < mid := (by assumption); refine .inr (hcl_mk (ih mid en b (symM fz f a i mid d) (symM_ok _ _ _ _ hd) (by omega) (by omega) (by omega) (by omega)) (by simp [PV.ids, id1, getH, Blk.inL, Cells.inL, inL1]) (by simp [PV.inL, inL1]) (by simp) ?_)) | (refine .inr (hcl_mk (ih mid en b d hd (by omega) (by omega) (by omega) (by omega)) (by simp [PV.ids, id1, getH, Blk.inL, Cells.inL, inL1]) (by simp [PV.inL, inL1]) (by simp) ?_))
        try simp (maxSteps := 1000000) [tn2, tn3, tn1, tnh, tnp, cmI_lt]
        simp [fnPostH, PV.inR, inR1, PV.inL, inL1, Blk.inL, Cells.inL, put_at, Try.results121, resP, tupOf]
        rw [symM_3 (by omega) (by omega) hmid hI hen]
        repeat' split
        all_goals (first | rfl | omega)
       ·clear hC131
        try simp at hc131
        refine swp_skip ?_
        try simp only [thn, inBlk]
        simp [fnPostH, PV.inR, inR1, PV.inL, inL1, Blk.inL, Cells.inL, put_at, Try.results121, resP, tupOf]
        rw [symM_3 (by omega) (by omega) hmid hI hen]
        repeat' split
        all_goals (first | rfl | omega)

theorem symM_all (N : Nat) (hN : N ≤ 289) (fz : Int → Int) (zs : List Int) (hC : Cm fz zs) : ∀ (f a m b : Nat) (d : List Int), Dok N d → a < m → m < b → b ≤ N → b - a ≤ f → HCall Try.prog 121 [.sl 42 0 N N, .int .i64 (a : Nat), .int .i64 (m : Nat), .int .i64 (b : Nat), .fn 73 [.ptr 98 0 0 1]] [(42, some ⟨.ints .i64 d, false, 3⟩), (98, some ⟨.rows 289 [zs.map (PV.int .u8)], true, 118⟩)] 99 (.tup []) [(42, some ⟨.ints .i64 (symM fz f a m b d), false, 3⟩)] := by
 intro f
 induction f with
 | zero => intro a m b d _ h1 h2 _ h4; omega
 | succ f ih => exact fun a m b d hd h1 h2 h3 h4 => symM_w N hN fz zs hC d hd f a m b h1 h2 h3 h4 ih

set_option maxHeartbeats 4000000 in
theorem stab_w (N : Nat) (hN : N ≤ 289) (fz : Int → Int) (zs : List Int) (hC : Cm fz zs) (d : List Int) (hd : Dok N d)  : HCall Try.prog 106 [.sl 42 0 N N, .int .i64 (N : Nat), .fn 73 [.ptr 98 0 0 1]] [(42, some ⟨.ints .i64 d, false, 3⟩), (98, some ⟨.rows 289 [zs.map (PV.int .u8)], true, 118⟩)] 99 (.tup []) [(42, some ⟨.ints .i64 (stab fz N d), false, 3⟩)] := by
 have hlen := hd.len
 have hpur := hC.pur
 refine hcall_body ty_ok Try.func106 rfl (by rfl) (by simp) ?_
 rw [Try.ntmps106]
 refine swp_seq fun K1 hK1 => ?_
 refine swp_region ty_ok ?_
 try simp (maxSteps := 1000000) [tn2, tn3, tn1, tnh]
 repeat' (first | apply And.intro | intro _)
 any_goals (first | (refine hK1 _ ?_; clear hK1) | omega | (simp_all <;> omega))
 refine swp_seq fun K2 hK2 => ?_
 refine swp_region ty_ok ?_
 try simp (maxSteps := 1000000) [tn2, tn3, tn1, tnh]
 repeat' (first | apply And.intro | intro _)
 any_goals (first | (refine hK2 _ ?_; clear hK2) | omega | (simp_all <;> omega))
 refine swp_seq fun K3 hK3 => ?_
 refine swp_block ?_
 refine swp_loop 99 (fun m_ s_ => ∃ (f : Nat) (a : Nat) (b : Nat) (e : List Int), (N + 1 ≤ b + f) ∧ (b = a + 20) ∧ (a ≤ N) ∧ (Dok N e) ∧ (stB fz N f a b e = stB fz N N 0 20 d) ∧ s_ = ⟨[(0, .sl 42 0 N N), (1, .int .i64 (N : Nat)), (2, .fn 73 [.ptr 98 0 0 1]), (6, .int .i64 (20 : Nat)), (7, .int .i64 (a : Nat)), (8, .int .i64 (b : Nat))], [(42, some ⟨.ints .i64 e, false, 3⟩), (98, some ⟨.rows 289 [zs.map (PV.int .u8)], true, 118⟩)], 99⟩ ∧ m_ = N + 1 - b) _ ⟨[(0, .sl 42 0 N N), (1, .int .i64 (N : Nat)), (2, .fn 73 [.ptr 98 0 0 1]), (6, .int .i64 (20 : Nat)), (7, .int .i64 (0 : Nat)), (8, .int .i64 (20 : Nat))], [(42, some ⟨.ints .i64 d, false, 3⟩), (98, some ⟨.rows 289 [zs.map (PV.int .u8)], true, 118⟩)], 99⟩ ⟨by simp [getT, PV.lo, lo1], by simp [getH, Blk.lo, Cells.lo, lo1], rfl, by omega⟩ ⟨(N), (0), (20), (d), by omega, by omega, by omega, by exact hd, by rfl, rfl, rfl⟩ ?_
 rintro m_ s_ ⟨f, a, b, e, hL4_0, hL4_1, hL4_2, hL4_3, hL4_4, rfl, rfl⟩ KL4 hL4
 have hq := (by assumption : Dok N e)
 have hR := (by assumption : stB fz N f a b e = stB fz N N 0 20 d)
 refine swp_seq fun K5 hK5 => ?_
 refine swp_seq fun K6 hK6 => ?_
 refine swp_region ty_ok ?_
 try simp (maxSteps := 1000000) [tn2, tn3, tn1, tnh]
 repeat' (first | apply And.intro | intro _)
 any_goals (first | (refine hK6 _ ?_; clear hK6) | omega | (simp_all <;> omega))
 refine swp_if fun C7 hC7 => ?_
 try simp (maxSteps := 1000000) [tn2, tn3, tn1, tnh]
 refine hC7 _ (fun hc7 => ?_) (fun hc7 => ?_)
 ·clear hC7
  try simp at hc7
  refine swp_skip ?_
  try simp only [thn, inBlk]
  refine hK5 _ ?_; clear hK5
  refine swp_block ?_
  refine swp_seq fun K8 hK8 => ?_
  have hcall := ins_ok N hN fz zs hC e hq a b (by omega) (by have h := hc7; omega)
  refine swp_region ty_ok ?_
  refine runs_cut 4 fun R9 hR9 => ?_
  try simp (maxSteps := 1000000) [tn2, tn3, tn1, tnh, List.take_succ_cons, List.take_zero, List.drop_succ_cons, List.drop_zero]
  repeat' (first | apply And.intro | intro _)
  any_goals (first | (refine hR9 _ ?_; clear hR9) | omega | (simp_all <;> omega))
  try simp (maxSteps := 1000000) [tn2, tn3, tn1, tnh, List.take_succ_cons, List.take_zero, List.drop_succ_cons, List.drop_zero]
  refine .inr (hcl_mk (hcall) (by simp [PV.ids, id1, getH, Blk.inL, Cells.inL, inL1]) (by simp [PV.inL, inL1]) (by simp) ?_)
  try simp (maxSteps := 1000000) [tn2, tn3, tn1, tnh]
  repeat' (first | apply And.intro | intro _)
  any_goals (first | (refine hK8 _ ?_; clear hK8) | omega | (simp_all <;> omega))
  refine swp_seq fun K10 hK10 => ?_
  refine swp_region ty_ok ?_
  try simp (maxSteps := 1000000) [tn2, tn3, tn1, tnh]
  repeat' (first | apply And.intro | intro _)
  any_goals (first | (refine hK10 _ ?_; clear hK10) | omega | (simp_all <;> omega))
  have hb20 := wadd (a := b) (b := 20) (by omega)
  rw [show ((20 : Nat) : Int) = 20 from rfl] at hb20
  refine swp_region ty_ok ?_
  try simp (maxSteps := 1000000) [tn2, tn3, tn1, tnh, hb20]
  repeat' apply And.intro
  any_goals (try omega)
  refine hL4 _ ⟨[(0, .sl 42 0 N N), (1, .int .i64 (N : Nat)), (2, .fn 73 [.ptr 98 0 0 1]), (6, .int .i64 (20 : Nat)), (7, .int .i64 (b : Nat)), (8, .int .i64 ((b + 20) : Nat))], [(42, some ⟨.ints .i64 (ins fz a b e), false, 3⟩), (98, some ⟨.rows 289 [zs.map (PV.int .u8)], true, 118⟩)], 99⟩ _ ?_ ⟨(f - 1), (b), (b + 20), (ins fz a b e), by omega, by omega, by omega, by exact insR_ok _ _ hq, by exact (stB_y (by omega) (by omega)).symm.trans hR, rfl, rfl⟩ ⟨by simp [getT, PV.lo, lo1, hb20], by simp [getH, Blk.lo, Cells.lo, lo1], rfl, by omega⟩
  omega
 ·clear hC7
  try simp at hc7
  refine swp_exit ?_
  simp [thn, inBlk]
  refine hK3 _ ?_; clear hK3
  refine swp_seq fun K11 hK11 => ?_
  have hcall := ins_ok N hN fz zs hC e hq a N (by omega) (Nat.le_refl _)
  have hR1 := hR.symm.trans (stB_n (f := f) (a := a) (by omega))
  refine swp_region ty_ok ?_
  refine runs_cut 4 fun R12 hR12 => ?_
  try simp (maxSteps := 1000000) [tn2, tn3, tn1, tnh, List.take_succ_cons, List.take_zero, List.drop_succ_cons, List.drop_zero]
  repeat' (first | apply And.intro | intro _)
  any_goals (first | (refine hR12 _ ?_; clear hR12) | omega | (simp_all <;> omega))
  try simp (maxSteps := 1000000) [tn2, tn3, tn1, tnh, List.take_succ_cons, List.take_zero, List.drop_succ_cons, List.drop_zero]
  refine .inr (hcl_mk (hcall) (by simp [PV.ids, id1, getH, Blk.inL, Cells.inL, inL1]) (by simp [PV.inL, inL1]) (by simp) ?_)
  try simp (maxSteps := 1000000) [tn2, tn3, tn1, tnh]
  repeat' (first | apply And.intro | intro _)
  any_goals (first | (refine hK11 _ ?_; clear hK11) | omega | (simp_all <;> omega))
  refine swp_block ?_
  refine swp_loop 99 (fun m_ s_ => ∃ (w : Nat) (s : Nat) (e2 : List Int), (N ≤ s + w) ∧ (20 ≤ s) ∧ (s ≤ 600) ∧ (Dok N e2) ∧ (stD fz N w s e2 = stab fz N d) ∧ s_ = ⟨[(0, .sl 42 0 N N), (1, .int .i64 (N : Nat)), (2, .fn 73 [.ptr 98 0 0 1]), (6, .int .i64 (s : Nat))], [(42, some ⟨.ints .i64 e2, false, 3⟩), (98, some ⟨.rows 289 [zs.map (PV.int .u8)], true, 118⟩)], 99⟩ ∧ m_ = N + 1 - s) _ ⟨[(0, .sl 42 0 N N), (1, .int .i64 (N : Nat)), (2, .fn 73 [.ptr 98 0 0 1]), (6, .int .i64 (20 : Nat))], [(42, some ⟨.ints .i64 (ins fz a N e), false, 3⟩), (98, some ⟨.rows 289 [zs.map (PV.int .u8)], true, 118⟩)], 99⟩ ⟨by simp [getT, PV.lo, lo1], by simp [getH, Blk.lo, Cells.lo, lo1], rfl, by omega⟩ ⟨(N), (20), (ins fz a N e), by omega, by omega, by omega, by exact insR_ok _ _ hq, by (unfold stab; rw [hR1]), rfl, rfl⟩ ?_
  rintro m_ s_ ⟨w, s, e2, hL13_0, hL13_1, hL13_2, hL13_3, hL13_4, rfl, rfl⟩ KL13 hL13
  have hq1 := (by assumption : Dok N e2)
  have hR2 := (by assumption : stD fz N w s e2 = stab fz N d)
  refine swp_seq fun K14 hK14 => ?_
  refine swp_seq fun K15 hK15 => ?_
  refine swp_region ty_ok ?_
  try simp (maxSteps := 1000000) [tn2, tn3, tn1, tnh]
  repeat' (first | apply And.intro | intro _)
  any_goals (first | (refine hK15 _ ?_; clear hK15) | omega | (simp_all <;> omega))
  refine swp_if fun C16 hC16 => ?_
  try simp (maxSteps := 1000000) [tn2, tn3, tn1, tnh]
  refine hC16 _ (fun hc16 => ?_) (fun hc16 => ?_)
  ·clear hC16
   try simp at hc16
   refine swp_skip ?_
   try simp only [thn, inBlk]
   refine hK14 _ ?_; clear hK14
   refine swp_block ?_
   refine swp_seq fun K17 hK17 => ?_
   have h2s : IntKind.i64.wrap (2 * (s : Int)) = 2 * (s : Int) := by rw [IntKind.wrap_i64]; omega
   refine swp_region ty_ok ?_
   try simp (maxSteps := 1000000) [tn2, tn3, tn1, tnh, h2s]
   repeat' (first | apply And.intro | intro _)
   any_goals (first | (refine hK17 _ ?_; clear hK17) | omega | (simp_all <;> omega))
   refine swp_seq fun K18 hK18 => ?_
   refine swp_block ?_
   refine swp_loop 99 (fun m_ s_ => ∃ (g : Nat) (a2 : Nat) (b2 : Nat) (q : List Int), (N + 1 ≤ a2 + g) ∧ (b2 = a2 + 2 * s) ∧ (a2 ≤ N) ∧ (Dok N q) ∧ (stM fz N s g a2 b2 q = stM fz N s (N + 1) 0 (2 * s) e2) ∧ s_ = ⟨[(0, .sl 42 0 N N), (1, .int .i64 (N : Nat)), (2, .fn 73 [.ptr 98 0 0 1]), (6, .int .i64 (s : Nat)), (7, .int .i64 (a2 : Nat)), (8, .int .i64 (b2 : Nat))], [(42, some ⟨.ints .i64 q, false, 3⟩), (98, some ⟨.rows 289 [zs.map (PV.int .u8)], true, 118⟩)], 99⟩ ∧ m_ = N + 1 - b2) _ ⟨[(0, .sl 42 0 N N), (1, .int .i64 (N : Nat)), (2, .fn 73 [.ptr 98 0 0 1]), (6, .int .i64 (s : Nat)), (7, .int .i64 (0 : Nat)), (8, .int .i64 ((2 * s) : Nat))], [(42, some ⟨.ints .i64 e2, false, 3⟩), (98, some ⟨.rows 289 [zs.map (PV.int .u8)], true, 118⟩)], 99⟩ ⟨by simp [getT, PV.lo, lo1], by simp [getH, Blk.lo, Cells.lo, lo1], rfl, by omega⟩ ⟨(N + 1), (0), (2 * s), (e2), by omega, by omega, by omega, by exact hq1, by rfl, rfl, rfl⟩ ?_
   rintro m_ s_ ⟨g, a2, b2, q, hL19_0, hL19_1, hL19_2, hL19_3, hL19_4, rfl, rfl⟩ KL19 hL19
   have hq2 := (by assumption : Dok N q)
   have hR3 := (by assumption : stM fz N s g a2 b2 q = stM fz N s (N + 1) 0 (2 * s) e2)
   refine swp_seq fun K20 hK20 => ?_
   refine swp_seq fun K21 hK21 => ?_
   refine swp_region ty_ok ?_
   try simp (maxSteps := 1000000) [tn2, tn3, tn1, tnh]
   repeat' (first | apply And.intro | intro _)
   any_goals (first | (refine hK21 _ ?_; clear hK21) | omega | (simp_all <;> omega))
   refine swp_if fun C22 hC22 => ?_
   try simp (maxSteps := 1000000) [tn2, tn3, tn1, tnh]
   refine hC22 _ (fun hc22 => ?_) (fun hc22 => ?_)
   ·clear hC22
    try simp at hc22
    refine swp_skip ?_
    try simp only [thn, inBlk]
    refine hK20 _ ?_; clear hK20
    refine swp_block ?_
    refine swp_seq fun K23 hK23 => ?_
    have hb2 := (by have h := hc22; exact h : b2 ≤ N)
    have has := wadd (a := a2) (b := s) (by omega)
    rw [Int.natCast_add] at has
    have hcall := symM_all N hN fz zs hC (b2 - a2) a2 (a2 + s) b2 q hq2 (by omega) (by omega) hb2 (by omega)
    rw [Int.natCast_add] at hcall
    refine swp_region ty_ok ?_
    refine runs_cut 7 fun R24 hR24 => ?_
    try simp (maxSteps := 1000000) [tn2, tn3, tn1, tnh, has, List.take_succ_cons, List.take_zero, List.drop_succ_cons, List.drop_zero]
    repeat' (first | apply And.intro | intro _)
    any_goals (first | (refine hR24 _ ?_; clear hR24) | omega | (simp_all <;> omega))
    try simp (maxSteps := 1000000) [tn2, tn3, tn1, tnh, has, List.take_succ_cons, List.take_zero, List.drop_succ_cons, List.drop_zero]
    refine .inr (hcl_mk (hcall) (by simp [PV.ids, id1, getH, Blk.inL, Cells.inL, inL1]) (by simp [PV.inL, inL1]) (by simp) ?_)
    try simp (maxSteps := 1000000) [tn2, tn3, tn1, tnh, has]
    repeat' (first | apply And.intro | intro _)
    any_goals (first | (refine hK23 _ ?_; clear hK23) | omega | (simp_all <;> omega))
    refine swp_seq fun K25 hK25 => ?_
    refine swp_region ty_ok ?_
    try simp (maxSteps := 1000000) [tn2, tn3, tn1, tnh]
    repeat' (first | apply And.intro | intro _)
    any_goals (first | (refine hK25 _ ?_; clear hK25) | omega | (simp_all <;> omega))
    have h2s : IntKind.i64.wrap (2 * (s : Int)) = 2 * (s : Int) := by rw [IntKind.wrap_i64]; omega
    have hbs : IntKind.i64.wrap ((b2 : Int) + 2 * (s : Int)) = (b2 : Int) + 2 * (s : Int) := by rw [IntKind.wrap_i64]; omega
    refine swp_region ty_ok ?_
    try simp (maxSteps := 1000000) [tn2, tn3, tn1, tnh, h2s, hbs]
    repeat' apply And.intro
    any_goals (try omega)
    refine hL19 _ ⟨[(0, .sl 42 0 N N), (1, .int .i64 (N : Nat)), (2, .fn 73 [.ptr 98 0 0 1]), (6, .int .i64 (s : Nat)), (7, .int .i64 (b2 : Nat)), (8, .int .i64 ((b2 + 2 * s) : Nat))], [(42, some ⟨.ints .i64 (symM fz (b2 - a2) a2 (a2 + s) b2 q), false, 3⟩), (98, some ⟨.rows 289 [zs.map (PV.int .u8)], true, 118⟩)], 99⟩ _ ?_ ⟨(g - 1), (b2), (b2 + 2 * s), (symM fz (b2 - a2) a2 (a2 + s) b2 q), by omega, by omega, by omega, by exact symM_ok _ _ _ _ hq2, by exact (stM_y (by omega) (by omega)).symm.trans hR3, rfl, rfl⟩ ⟨by simp [getT, PV.lo, lo1, hbs], by simp [getH, Blk.lo, Cells.lo, lo1], rfl, by omega⟩
    omega
   ·clear hC22
    try simp at hc22
    refine swp_exit ?_
    simp [thn, inBlk]
    refine hK18 _ ?_; clear hK18
    refine swp_seq fun K26 hK26 => ?_
    refine swp_seq fun K27 hK27 => ?_
    have has := wadd (a := a2) (b := s) (by omega)
    rw [Int.natCast_add] at has
    have hRm := hR3.symm.trans (stM_n (f := g) (a := a2) (by omega) (by omega))
    refine swp_region ty_ok ?_
    try simp (maxSteps := 1000000) [tn2, tn3, tn1, tnh, has]
    repeat' (first | apply And.intro | intro _)
    any_goals (first | (refine hK27 _ ?_; clear hK27) | omega | (simp_all <;> omega))
    refine swp_seq fun K28 hK28 => ?_
    refine swp_region ty_ok ?_
    try simp (maxSteps := 1000000) [tn2, tn3, tn1, tnh]
    repeat' (first | apply And.intro | intro _)
    any_goals (first | (refine hK28 _ ?_; clear hK28) | omega | (simp_all <;> omega))
    refine swp_if fun C29 hC29 => ?_
    try simp (maxSteps := 1000000) [tn2, tn3, tn1, tnh]
    refine hC29 _ (fun hc29 => ?_) (fun hc29 => ?_)
    ·clear hC29
     try simp at hc29
     have hmN : a2 + s < N := (by have h := hc29; omega)
     have hcall := symM_all N hN fz zs hC (N - a2) a2 (a2 + s) N q hq2 (by omega) (by omega) (Nat.le_refl _) (by omega)
     rw [Int.natCast_add] at hcall
     refine swp_region ty_ok ?_
     refine runs_cut 5 fun R30 hR30 => ?_
     try simp (maxSteps := 1000000) [tn2, tn3, tn1, tnh, List.take_succ_cons, List.take_zero, List.drop_succ_cons, List.drop_zero]
     repeat' (first | apply And.intro | intro _)
     any_goals (first | (refine hR30 _ ?_; clear hR30) | omega | (simp_all <;> omega))
     try simp (maxSteps := 1000000) [tn2, tn3, tn1, tnh, List.take_succ_cons, List.take_zero, List.drop_succ_cons, List.drop_zero]
     refine .inr (hcl_mk (hcall) (by simp [PV.ids, id1, getH, Blk.inL, Cells.inL, inL1]) (by simp [PV.inL, inL1]) (by simp) ?_)
     try simp (maxSteps := 1000000) [tn2, tn3, tn1, tnh]
     repeat' (first | apply And.intro | intro _)
     any_goals (first | (refine hK26 _ ?_; clear hK26) | omega | (simp_all <;> omega))
     have hs2 : IntKind.i64.wrap ((s : Int) * 2) = (s : Int) * 2 := by rw [IntKind.wrap_i64]; omega
     refine swp_region ty_ok ?_
     try simp (maxSteps := 1000000) [tn2, tn3, tn1, tnh, hs2]
     repeat' apply And.intro
     any_goals (try omega)
     refine hL13 _ ⟨[(0, .sl 42 0 N N), (1, .int .i64 (N : Nat)), (2, .fn 73 [.ptr 98 0 0 1]), (6, .int .i64 ((s * 2) : Nat))], [(42, some ⟨.ints .i64 (stM fz N s (N + 1) 0 (2 * s) e2), false, 3⟩), (98, some ⟨.rows 289 [zs.map (PV.int .u8)], true, 118⟩)], 99⟩ _ ?_ ⟨(w - 1), (s * 2), (stM fz N s (N + 1) 0 (2 * s) e2), by omega, by omega, by omega, by exact stM_ok _ _ _ hq1, by exact (stD_y (f := w) (by omega) (by omega)).symm.trans hR2, rfl, rfl⟩ ⟨by simp [getT, PV.lo, lo1, hs2], by (simp [getH, Blk.lo, Cells.lo, lo1, hRm]; intro hx; exfalso; have h := hc29; omega), rfl, by omega⟩
     omega
    ·clear hC29
     try simp at hc29
     refine swp_skip ?_
     try simp only [thn, inBlk]
     refine hK26 _ ?_; clear hK26
     have hs2 : IntKind.i64.wrap ((s : Int) * 2) = (s : Int) * 2 := by rw [IntKind.wrap_i64]; omega
     refine swp_region ty_ok ?_
     try simp (maxSteps := 1000000) [tn2, tn3, tn1, tnh, hs2]
     repeat' apply And.intro
     any_goals (try omega)
     refine hL13 _ ⟨[(0, .sl 42 0 N N), (1, .int .i64 (N : Nat)), (2, .fn 73 [.ptr 98 0 0 1]), (6, .int .i64 ((s * 2) : Nat))], [(42, some ⟨.ints .i64 (stM fz N s (N + 1) 0 (2 * s) e2), false, 3⟩), (98, some ⟨.rows 289 [zs.map (PV.int .u8)], true, 118⟩)], 99⟩ _ ?_ ⟨(w - 1), (s * 2), (stM fz N s (N + 1) 0 (2 * s) e2), by omega, by omega, by omega, by exact stM_ok _ _ _ hq1, by exact (stD_y (f := w) (by omega) (by omega)).symm.trans hR2, rfl, rfl⟩ ⟨by simp [getT, PV.lo, lo1, hs2], by (simp [getH, Blk.lo, Cells.lo, lo1, hRm]; intro hx; exfalso; have h := hc29; omega), rfl, by omega⟩
     omega
  ·clear hC16
   try simp at hc16
   refine swp_exit ?_
   simp [thn, inBlk]
   simp [fnPostH, PV.inR, inR1, PV.inL, inL1, Blk.inL, Cells.inL, put_at, Try.results106, resP, tupOf]
   exact (stD_n (by omega)).symm.trans hR2

theorem sortS_w (N : Nat) (hN : N ≤ 289) (fz : Int → Int) (zs : List Int) (hC : Cm fz zs) (d : List Int) (hd : Dok N d)  : HCall Try.prog 72 [.sl 42 0 N N, .fn 73 [.ptr 98 0 0 1]] [(42, some ⟨.ints .i64 d, false, 3⟩), (98, some ⟨.rows 289 [zs.map (PV.int .u8)], true, 118⟩)] 99 (.tup []) [(42, some ⟨.ints .i64 (stab fz N d), false, 3⟩)] := by
 have hlen := hd.len
 refine hcall_body ty_ok Try.func72 rfl (by rfl) (by simp) ?_
 rw [Try.ntmps72]
 refine swp_region ty_ok ?_
 refine runs_cut 4 fun R1 hR1 => ?_
 try simp (maxSteps := 1000000) [List.take_succ_cons, List.take_zero, List.drop_succ_cons, List.drop_zero]
 repeat' (first | apply And.intro | intro _)
 any_goals (first | (refine hR1 _ ?_; clear hR1) | omega | (simp_all <;> omega))
 try simp (maxSteps := 1000000) [List.take_succ_cons, List.take_zero, List.drop_succ_cons, List.drop_zero]
 refine .inr (hcl_mk (stab_w N hN fz zs hC d hd) (by simp [PV.ids, id1, getH, Blk.inL, Cells.inL, inL1]) (by simp [PV.inL, inL1]) (by simp) ?_)
 try simp (maxSteps := 1000000)
 simp [fnPostH, PV.inR, inR1, PV.inL, inL1, Blk.inL, Cells.inL, put_at, Try.results72, resP, tupOf]

end Go.Proofs.Ytgheplondkoedaa

