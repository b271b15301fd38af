import Derived.Test.YtgheplondkoedaaWf
import Derived.Test.YtgheplondkoedaaTyh
import Derived.Test.YtgheplondkoedaaBkq
import Derived.Test.YtgheplondkoedaaHsrt
import Derived.Test.YtgheplondkoedaaHbk
namespace Go.Proofs.Ytgheplondkoedaa
set_option linter.unusedVariables false
set_option linter.unusedSimpArgs false
set_option maxRecDepth 10000
open Go Go.Pv

def bookV (i : Nat) : PV := .agg [.int .i64 (i : Nat), .int .i64 (bPlain i : Nat), .ro (.ints .i64 (bE i)), .ro (.ints .i64 (bR i))]

attribute [local simp] runs gd step1 need evu un opnds opv ev cst cst1 cstL getT getH putT onL nxt argT cellsOf PV.one thn inBlk jmp fldP ldP ldC live Cells.len Cells.get Cells.w sug ldv bin eqF eq1 ops2 sh2 binv Tk.agg stC apC rdS apS cpC cpS mvL zp argsP idx fillP toInts chunks mkC ixS ixA oidx slP sl0 slA optL List.append mxF bltn frzA frz frzL frz1 pur1 Cells.pur PV.scal scal1 runD rdO PV.ids id1 zids ety Eff.on cnd minb and1b ifmax ifmin mxv sugI strv w0 w1 w2 wm1
theorem isNaN_ok (x : Int) : PCall Try.prog 107 [.int .u8 x] (.bool false) := by
 refine pcall_body ty_ok Try.func107 rfl (by rfl) (by simp) ?_
 rw [Try.ntmps107]
 refine swp_seq fun K1 hK1 => ?_
 refine swp_region ty_ok ?_
 try simp (maxSteps := 1000000)
 repeat' (first | apply And.intro | intro _)
 any_goals (first | (refine hK1 _ ?_; clear hK1) | omega | (simp_all <;> omega))
 refine swp_seq fun K2 hK2 => ?_
 refine swp_region ty_ok ?_
 try simp (maxSteps := 1000000)
 repeat' (first | apply And.intro | intro _)
 any_goals (first | (refine hK2 _ ?_; clear hK2) | omega | (simp_all <;> omega))
 refine swp_ret ?_
 simp [fnPost, Try.results107, resP, tupOf]

theorem cmp_ok (x y : Int) : PCall Try.prog 74 [.int .u8 x, .int .u8 y] (.int .i64 (if x < y then -1 else if y < x then 1 else 0)) := by
 refine pcall_body ty_ok Try.func74 rfl (by rfl) (by simp) ?_
 rw [Try.ntmps74]
 refine swp_seq fun K1 hK1 => ?_
 refine swp_region ty_ok ?_
 try simp (maxSteps := 1000000)
 repeat' (first | apply And.intro | intro _)
 any_goals (first | (refine hK1 _ ?_; clear hK1) | omega | (simp_all <;> omega))
 refine swp_seq fun K2 hK2 => ?_
 refine swp_region ty_ok ?_
 refine runs_cut 1 fun R3 hR3 => ?_
 try simp (maxSteps := 1000000) [List.take_succ_cons, List.take_zero, List.drop_succ_cons, List.drop_zero]
 repeat' (first | apply And.intro | intro _)
 any_goals (first | (refine hR3 _ ?_; clear hR3) | omega | (simp_all <;> omega))
 refine runs_cut 1 fun R4 hR4 => ?_
 try simp (maxSteps := 1000000) [List.take_succ_cons, List.take_zero, List.drop_succ_cons, List.drop_zero]
 refine .inl ⟨_, isNaN_ok x, ?_⟩
 try simp (maxSteps := 1000000)
 repeat' (first | apply And.intro | intro _)
 any_goals (first | (refine hR4 _ ?_; clear hR4) | omega | (simp_all <;> omega))
 try simp (maxSteps := 1000000) [List.take_succ_cons, List.take_zero, List.drop_succ_cons, List.drop_zero]
 repeat' (first | apply And.intro | intro _)
 any_goals (first | (refine hK2 _ ?_; clear hK2) | omega | (simp_all <;> omega))
 refine swp_seq fun K5 hK5 => ?_
 refine swp_region ty_ok ?_
 refine runs_cut 1 fun R6 hR6 => ?_
 try simp (maxSteps := 1000000) [List.take_succ_cons, List.take_zero, List.drop_succ_cons, List.drop_zero]
 repeat' (first | apply And.intro | intro _)
 any_goals (first | (refine hR6 _ ?_; clear hR6) | omega | (simp_all <;> omega))
 refine runs_cut 1 fun R7 hR7 => ?_
 try simp (maxSteps := 1000000) [List.take_succ_cons, List.take_zero, List.drop_succ_cons, List.drop_zero]
 refine .inl ⟨_, isNaN_ok y, ?_⟩
 try simp (maxSteps := 1000000)
 repeat' (first | apply And.intro | intro _)
 any_goals (first | (refine hR7 _ ?_; clear hR7) | omega | (simp_all <;> omega))
 try simp (maxSteps := 1000000) [List.take_succ_cons, List.take_zero, List.drop_succ_cons, List.drop_zero]
 repeat' (first | apply And.intro | intro _)
 any_goals (first | (refine hK5 _ ?_; clear hK5) | omega | (simp_all <;> omega))
 refine swp_seq fun K8 hK8 => ?_
 refine swp_seq fun K9 hK9 => ?_
 refine swp_region ty_ok ?_
 try simp (maxSteps := 1000000)
 repeat' (first | apply And.intro | intro _)
 any_goals (first | (refine hK9 _ ?_; clear hK9) | omega | (simp_all <;> omega))
 refine swp_if fun C10 hC10 => ?_
 try simp (maxSteps := 1000000)
 refine hC10 _ (fun hc10 => ?_) (fun hc10 => ?_)
 ·exact absurd hc10 (by simp)
 ·clear hC10
  try simp at hc10
  refine swp_skip ?_
  try simp only [thn, inBlk]
  refine hK8 _ ?_; clear hK8
  refine swp_seq fun K11 hK11 => ?_
  refine swp_seq fun K12 hK12 => ?_
  refine swp_region ty_ok ?_
  try simp (maxSteps := 1000000)
  repeat' (first | apply And.intro | intro _)
  any_goals (first | (refine hK12 _ ?_; clear hK12) | omega | (simp_all <;> omega))
  refine swp_if fun C13 hC13 => ?_
  try simp (maxSteps := 1000000)
  refine hC13 _ (fun hc13 => ?_) (fun hc13 => ?_)
  ·exact absurd hc13 (by simp)
  ·clear hC13
   try simp at hc13
   refine swp_skip ?_
   try simp only [thn, inBlk]
   refine hK11 _ ?_; clear hK11
   refine swp_seq fun K14 hK14 => ?_
   refine swp_seq fun K15 hK15 => ?_
   refine swp_region ty_ok ?_
   try simp (maxSteps := 1000000)
   repeat' (first | apply And.intro | intro _)
   any_goals (first | (refine hK15 _ ?_; clear hK15) | omega | (simp_all <;> omega))
   refine swp_if fun C16 hC16 => ?_
   try simp (maxSteps := 1000000)
   refine hC16 _ (fun hc16 => ?_) (fun hc16 => ?_)
   ·clear hC16
    try simp at hc16
    refine swp_seq fun K17 hK17 => ?_
    refine swp_region ty_ok ?_
    try simp (maxSteps := 1000000)
    repeat' (first | apply And.intro | intro _)
    any_goals (first | (refine hK17 _ ?_; clear hK17) | omega | (simp_all <;> omega))
    refine swp_ret ?_
    simp [fnPost, Try.results74, resP, tupOf]
    first | (simp_all <;> omega)
   ·clear hC16
    try simp at hc16
    refine swp_skip ?_
    try simp only [thn, inBlk]
    refine hK14 _ ?_; clear hK14
    refine swp_seq fun K18 hK18 => ?_
    refine swp_seq fun K19 hK19 => ?_
    refine swp_region ty_ok ?_
    try simp (maxSteps := 1000000)
    repeat' (first | apply And.intro | intro _)
    any_goals (first | (refine hK19 _ ?_; clear hK19) | omega | (simp_all <;> omega))
    refine swp_if fun C20 hC20 => ?_
    try simp (maxSteps := 1000000)
    refine hC20 _ (fun hc20 => ?_) (fun hc20 => ?_)
    ·clear hC20
     try simp at hc20
     refine swp_seq fun K21 hK21 => ?_
     refine swp_region ty_ok ?_
     try simp (maxSteps := 1000000)
     repeat' (first | apply And.intro | intro _)
     any_goals (first | (refine hK21 _ ?_; clear hK21) | omega | (simp_all <;> omega))
     refine swp_ret ?_
     simp [fnPost, Try.results74, resP, tupOf]
     first | (simp_all <;> omega)
    ·clear hC20
     try simp at hc20
     refine swp_skip ?_
     try simp only [thn, inBlk]
     refine hK18 _ ?_; clear hK18
     refine swp_seq fun K22 hK22 => ?_
     refine swp_region ty_ok ?_
     try simp (maxSteps := 1000000)
     repeat' (first | apply And.intro | intro _)
     any_goals (first | (refine hK22 _ ?_; clear hK22) | omega | (simp_all <;> omega))
     refine swp_ret ?_
     simp [fnPost, Try.results74, resP, tupOf]
     first | (simp_all <;> omega)

theorem get1_ok (i : Nat) (h1 : 1 ≤ i) (h2 : i ≤ 12) (x y : Int) (hx : 0 ≤ x ∧ x < 289) (hy : 0 ≤ y ∧ y < 289) : PCall Try.prog 73 [.int .i64 x, .int .i64 y, .rop (.rows 289 [(bSzs i).map (PV.int .u8)]) 0 0] (.int .i64 (cmI (fzB i) x y)) := by
 have hB := bk_ok h1 h2
 have hdim := hB.dim
 have hlow := hB.low
 have hhigh := hB.high
 have hwide := hB.wide
 have hmany := hB.many
 have hplain := hB.plain
 have hzl := bSzs_len hB
 have hzx := bSzs_at hB hx
 have hzy := bSzs_at hB hy
 have hmx := map_at (k := .u8) (l := bSzs i) (j := x.toNat) (by omega)
 have hmy := map_at (k := .u8) (l := bSzs i) (j := y.toNat) (by omega)
 rw [hzx] at hmx
 rw [hzy] at hmy
 refine pcall_body ty_ok Try.func73 rfl (by rfl) (by simp) ?_
 rw [Try.ntmps73]
 refine swp_seq fun K1 hK1 => ?_
 refine swp_region ty_ok ?_
 try simp (maxSteps := 1000000) [hmx, hmy, hzl]
 repeat' (first | apply And.intro | intro _)
 any_goals (first | (refine hK1 _ ?_; clear hK1) | omega | (simp_all <;> omega))
 refine swp_seq fun K2 hK2 => ?_
 refine swp_draw ty_ok mixed (ms := [0, 1, 3, 0, 8, 24, 63, 127]) (by kernel_rfl) ?_
 refine runD_cut 6 fun R3 hR3 => ?_
 try simp (maxSteps := 1000000) [hmx, hmy, hzl, List.take_succ_cons, List.take_zero, List.drop_succ_cons, List.drop_zero]
 repeat' (first | apply And.intro | intro _)
 any_goals (first | (refine hR3 _ _ _ _ ?_; clear hR3) | omega | (simp_all <;> omega))
 refine runD_cut 1 fun R4 hR4 => ?_
 try simp (maxSteps := 1000000) [hmx, hmy, hzl, List.take_succ_cons, List.take_zero, List.drop_succ_cons, List.drop_zero]
 refine .inl ⟨_, cmp_ok (fzB i x) (fzB i y), ?_⟩
 try simp (maxSteps := 1000000) [hmx, hmy, hzl]
 repeat' (first | apply And.intro | intro _)
 any_goals (first | (refine hR4 _ _ _ _ ?_; clear hR4) | omega | (simp_all <;> omega))
 try simp (maxSteps := 1000000) [hmx, hmy, hzl, List.take_succ_cons, List.take_zero, List.drop_succ_cons, List.drop_zero]
 repeat' (first | apply And.intro | intro _)
 any_goals (first | kernel_rfl | (refine hK2 _ ?_; clear hK2) | omega | (simp_all <;> omega))
 refine swp_ret ?_
 simp [fnPost, Try.results73, resP, tupOf, cmI]

theorem cm_ok (i : Nat) (h1 : 1 ≤ i) (h2 : i ≤ 12) : Cm (fzB i) (bSzs i) := ⟨by simp [Cells.pur, pur1], fun x y hx hy => get1_ok i h1 h2 x y hx hy⟩
theorem dok_fill (i : Nat) (h1 : 1 ≤ i) (h2 : i ≤ 12) : Dok (bMany i) ((List.range (bMany i)).map Int.ofNat) := by
 have hm := (bk_ok h1 h2).many
 refine ⟨by simp, fun k => ?_⟩
 rw [map_of]
 by_cases hk : k < bMany i
 ·rw [List.getElem?_range hk]
  show 0 ≤ (k : Int) ∧ (k : Int) < 289
  omega
 ·rw [List.getElem?_eq_none (by simp; omega)]
  exact ⟨by decide, by decide⟩

set_option maxHeartbeats 4000000 in
theorem get_book (i : Nat) (h1 : 1 ≤ i) (h2 : i ≤ 12)  : PCall Try.prog 35 [.int .i64 (i : Nat)] (.tup [bookV i, .int .i64 0]) := by
 have hB := bk_ok h1 h2
 have hdim := hB.dim
 have hlow := hB.low
 have hhigh := hB.high
 have hwide := hB.wide
 have hmany := hB.many
 have hplain := hB.plain
 have hzl := bSzs_len hB
 have hE := bke h1 h2
 have hst := sortS_w (bMany i) hmany.2.2 (fzB i) (bSzs i) (cm_ok i h1 h2) ((List.range (bMany i)).map Int.ofNat) (dok_fill i h1 h2)
 rw [hE.stab] at hst
 refine pcall_body ty_ok Try.func35 rfl (by rfl) (by simp) ?_
 rw [Try.ntmps35]
 refine swp_seq fun K1 hK1 => ?_
 refine swp_region ty_ok ?_
 try simp (maxSteps := 1000000)
 repeat' (first | apply And.intro | intro _)
 any_goals (first | (refine hK1 _ ?_; clear hK1) | omega | (simp_all <;> omega))
 refine swp_seq fun K2 hK2 => ?_
 refine swp_region ty_ok ?_
 refine runs_cut 1 fun R3 hR3 => ?_
 try simp (maxSteps := 1000000) [List.take_succ_cons, List.take_zero, List.drop_succ_cons, List.drop_zero]
 repeat' (first | apply And.intro | intro _)
 any_goals (first | (refine hR3 _ ?_; clear hR3) | omega | (simp_all <;> omega))
 refine runs_cut 1 fun R4 hR4 => ?_
 try simp (maxSteps := 1000000) [List.take_succ_cons, List.take_zero, List.drop_succ_cons, List.drop_zero]
 refine .inl ⟨_, of_ok i h1 h2, ?_⟩
 try simp (maxSteps := 1000000)
 repeat' (first | apply And.intro | intro _)
 any_goals (first | (refine hR4 _ ?_; clear hR4) | omega | (simp_all <;> omega))
 try simp (maxSteps := 1000000) [List.take_succ_cons, List.take_zero, List.drop_succ_cons, List.drop_zero]
 repeat' (first | apply And.intro | intro _)
 any_goals (first | (refine hK2 _ ?_; clear hK2) | omega | (simp_all <;> omega))
 refine swp_seq fun K5 hK5 => ?_
 refine swp_seq fun K6 hK6 => ?_
 refine swp_region ty_ok ?_
 try simp (maxSteps := 1000000)
 repeat' (first | apply And.intro | intro _)
 any_goals (first | (refine hK6 _ ?_; clear hK6) | omega | (simp_all <;> omega))
 refine swp_if fun C7 hC7 => ?_
 try simp (maxSteps := 1000000)
 refine hC7 _ (fun hc7 => ?_) (fun hc7 => ?_)
 ·exact absurd hc7 (by simp)
 ·clear hC7
  try simp at hc7
  refine swp_skip ?_
  try simp only [thn, inBlk]
  refine hK5 _ ?_; clear hK5
  refine swp_seq fun K8 hK8 => ?_
  refine swp_draw ty_ok mixed (ms := [0, 0, 2, 0, 8, 24, 0, 88, 216, 511, 0, 2047]) (by kernel_rfl) ?_
  refine runD_cut 4 fun R9 hR9 => ?_
  try simp (maxSteps := 1000000) [List.take_succ_cons, List.take_zero, List.drop_succ_cons, List.drop_zero]
  repeat' (first | apply And.intro | intro _)
  any_goals (first | (refine hR9 _ _ _ _ ?_; clear hR9) | omega | (simp_all <;> omega))
  refine runD_cut 1 fun R10 hR10 => ?_
  try simp (maxSteps := 1000000) [List.take_succ_cons, List.take_zero, List.drop_succ_cons, List.drop_zero]
  refine .inl ⟨_, many_ok i h1 h2, ?_⟩
  try simp (maxSteps := 1000000)
  repeat' (first | apply And.intro | intro _)
  any_goals (first | (refine hR10 _ _ _ _ ?_; clear hR10) | omega | (simp_all <;> omega))
  refine runD_cut 1 fun R11 hR11 => ?_
  try simp (maxSteps := 1000000) [List.take_succ_cons, List.take_zero, List.drop_succ_cons, List.drop_zero]
  repeat' (first | apply And.intro | intro _)
  any_goals (first | (refine Or.inr (hR11 _ _ _ _ ?_); clear hR11) | omega | (simp_all <;> omega))
  refine runD_cut 1 fun R12 hR12 => ?_
  try simp (maxSteps := 1000000) [List.take_succ_cons, List.take_zero, List.drop_succ_cons, List.drop_zero]
  repeat' (first | apply And.intro | intro _)
  any_goals (first | (refine hR12 _ _ _ _ ?_; clear hR12) | omega | (simp_all <;> omega))
  refine runD_cut 1 fun R13 hR13 => ?_
  try simp (maxSteps := 1000000) [List.take_succ_cons, List.take_zero, List.drop_succ_cons, List.drop_zero]
  refine .inl ⟨_, many_ok i h1 h2, ?_⟩
  try simp (maxSteps := 1000000)
  repeat' (first | apply And.intro | intro _)
  any_goals (first | (refine hR13 _ _ _ _ ?_; clear hR13) | omega | (simp_all <;> omega))
  refine runD_cut 1 fun R14 hR14 => ?_
  try simp (maxSteps := 1000000) [List.take_succ_cons, List.take_zero, List.drop_succ_cons, List.drop_zero]
  repeat' (first | apply And.intro | intro _)
  any_goals (first | (refine Or.inr (hR14 _ _ _ _ ?_); clear hR14) | omega | (simp_all <;> omega))
  try simp (maxSteps := 1000000) [List.take_succ_cons, List.take_zero, List.drop_succ_cons, List.drop_zero]
  repeat' (first | apply And.intro | intro _)
  any_goals (first | kernel_rfl | (refine hK8 _ ?_; clear hK8) | omega | (simp_all <;> omega))
  refine swp_seq fun K16 hK16 => ?_
  refine swp_region ty_ok ?_
  refine runs_cut 1 fun R17 hR17 => ?_
  try simp (maxSteps := 1000000) [hzl, List.take_succ_cons, List.take_zero, List.drop_succ_cons, List.drop_zero]
  repeat' (first | apply And.intro | intro _)
  any_goals (first | (refine hR17 _ ?_; clear hR17) | omega | (simp_all <;> omega))
  refine runs_cut 1 fun R18 hR18 => ?_
  try simp (maxSteps := 1000000) [hzl, List.take_succ_cons, List.take_zero, List.drop_succ_cons, List.drop_zero]
  refine .inl ⟨_, sizes_ok i h1 h2, ?_⟩
  try simp (maxSteps := 1000000) [hzl]
  repeat' (first | apply And.intro | intro _)
  any_goals (first | (refine hR18 _ ?_; clear hR18) | omega | (simp_all <;> omega))
  try simp (maxSteps := 1000000) [hzl, List.take_succ_cons, List.take_zero, List.drop_succ_cons, List.drop_zero]
  repeat' (first | apply And.intro | intro _)
  any_goals (first | (refine hK16 _ ?_; clear hK16) | omega | (simp_all <;> omega))
  refine swp_seq fun K19 hK19 => ?_
  refine swp_seq fun K20 hK20 => ?_
  refine swp_region ty_ok ?_
  try simp (maxSteps := 1000000)
  repeat' (first | apply And.intro | intro _)
  any_goals (first | (refine hK20 _ ?_; clear hK20) | omega | (simp_all <;> omega))
  refine swp_block ?_
  refine swp_loop 99 (fun m_ s_ => ∃ (j : Nat), (j ≤ bMany i) ∧ s_ = ⟨[(2, .ptr 0 0 0 1), (6, .ptr 82 0 0 1), (7, .ptr 98 0 0 1), (34, .int .i64 (bMany i : Nat)), (35, .int .i64 (j : Nat))], [(0, some ⟨.rows 4 [[.int .i64 0, .int .i64 0, .nil (.ints .i64 []), .nil (.ints .i64 [])]], true, 25⟩), (42, some ⟨.ints .i64 (fillE (bMany i) j), false, 3⟩), (66, some ⟨.ints .i64 (List.replicate (bMany i) 0), false, 3⟩), (82, some ⟨.rows 4 [[.int .i64 (i : Nat), .int .i64 (bPlain i : Nat), .sl 42 0 (bMany i) (bMany i), .sl 66 0 (bMany i) (bMany i)]], true, 25⟩), (98, some ⟨.rows 289 [(bSzs i).map (PV.int .u8)], true, 118⟩)], 99⟩ ∧ m_ = bMany i - j) _ ⟨[(2, .ptr 0 0 0 1), (6, .ptr 82 0 0 1), (7, .ptr 98 0 0 1), (34, .int .i64 (bMany i : Nat)), (35, .int .i64 (0 : Nat))], [(0, some ⟨.rows 4 [[.int .i64 0, .int .i64 0, .nil (.ints .i64 []), .nil (.ints .i64 [])]], true, 25⟩), (42, some ⟨.ints .i64 (fillE (bMany i) 0), false, 3⟩), (66, some ⟨.ints .i64 (List.replicate (bMany i) 0), false, 3⟩), (82, some ⟨.rows 4 [[.int .i64 (i : Nat), .int .i64 (bPlain i : Nat), .sl 42 0 (bMany i) (bMany i), .sl 66 0 (bMany i) (bMany i)]], true, 25⟩), (98, some ⟨.rows 289 [(bSzs i).map (PV.int .u8)], true, 118⟩)], 99⟩ ⟨by simp [getT, PV.lo, lo1], by simp [getH, Blk.lo, Cells.lo, lo1, fillE_zero], rfl, by omega⟩ ⟨(0), by (first | omega | (simp_all <;> omega)), rfl, rfl⟩ ?_
  rintro m_ s_ ⟨j, hL21_0, rfl, rfl⟩ KL21 hL21
  have hjw := wnext (i := j) (by omega)
  refine swp_seq fun K22 hK22 => ?_
  refine swp_region ty_ok ?_
  try simp (maxSteps := 1000000)
  repeat' (first | apply And.intro | intro _)
  any_goals (first | (refine hK22 _ ?_; clear hK22) | omega | (simp_all <;> omega))
  refine swp_seq fun K23 hK23 => ?_
  refine swp_if fun C24 hC24 => ?_
  try simp (maxSteps := 1000000)
  refine hC24 _ (fun hc24 => ?_) (fun hc24 => ?_)
  ·clear hC24
   try simp at hc24
   refine swp_skip ?_
   try simp only [thn, inBlk]
   refine hK23 _ ?_; clear hK23
   refine swp_seq fun K25 hK25 => ?_
   refine swp_block ?_
   refine swp_seq fun K26 hK26 => ?_
   refine swp_region ty_ok ?_
   try simp (maxSteps := 1000000)
   repeat' (first | apply And.intro | intro _)
   any_goals (first | (refine hK26 _ ?_; clear hK26) | omega | (simp_all <;> omega))
   have hjl := fillE_len (N := bMany i) (j := j) (by omega)
   have hset := fillE_set (N := bMany i) (j := j) (by have h := hc24; omega)
   refine swp_region ty_ok ?_
   try simp (maxSteps := 1000000) [hset, hjl]
   repeat' (first | apply And.intro | intro _)
   any_goals (first | (refine hK25 _ ?_; clear hK25) | omega | (simp_all <;> omega))
   refine swp_region ty_ok ?_
   try simp (maxSteps := 1000000)
   repeat' apply And.intro
   any_goals (try omega)
   refine hL21 _ ⟨[(2, .ptr 0 0 0 1), (6, .ptr 82 0 0 1), (7, .ptr 98 0 0 1), (34, .int .i64 (bMany i : Nat)), (35, .int .i64 ((j + 1) : Nat))], [(0, some ⟨.rows 4 [[.int .i64 0, .int .i64 0, .nil (.ints .i64 []), .nil (.ints .i64 [])]], true, 25⟩), (42, some ⟨.ints .i64 (fillE (bMany i) (j + 1)), false, 3⟩), (66, some ⟨.ints .i64 (List.replicate (bMany i) 0), false, 3⟩), (82, some ⟨.rows 4 [[.int .i64 (i : Nat), .int .i64 (bPlain i : Nat), .sl 42 0 (bMany i) (bMany i), .sl 66 0 (bMany i) (bMany i)]], true, 25⟩), (98, some ⟨.rows 289 [(bSzs i).map (PV.int .u8)], true, 118⟩)], 99⟩ _ ?_ ⟨(j + 1), by (first | omega | (simp_all <;> omega)), rfl, rfl⟩ ⟨by simp [getT, PV.lo, lo1, hjw], by simp [getH, Blk.lo, Cells.lo, lo1], rfl, by omega⟩
   omega
  ·clear hC24
   try simp at hc24
   refine swp_exit ?_
   simp [thn, inBlk]
   refine hK19 _ ?_; clear hK19
   refine swp_seq fun K27 hK27 => ?_
   have hjm : j = bMany i := (by omega)
   have hfe := fillE_end (N := bMany i)
   refine swp_region ty_ok ?_
   refine runs_cut 3 fun R28 hR28 => ?_
   try simp (maxSteps := 1000000) [hjm, hfe, List.take_succ_cons, List.take_zero, List.drop_succ_cons, List.drop_zero]
   repeat' (first | apply And.intro | intro _)
   any_goals (first | (refine hR28 _ ?_; clear hR28) | omega | (simp_all <;> omega))
   try simp (maxSteps := 1000000) [hjm, hfe, List.take_succ_cons, List.take_zero, List.drop_succ_cons, List.drop_zero]
   refine .inr (hcl_mk (hst) (by simp [PV.ids, id1, getH, Blk.inL, Cells.inL, inL1]) (by simp [PV.inL, inL1]) (by simp) ?_)
   try simp (maxSteps := 1000000) [hjm, hfe]
   repeat' (first | apply And.intro | intro _)
   any_goals (first | (refine hK27 _ ?_; clear hK27) | omega | (simp_all <;> omega))
   refine swp_seq fun K29 hK29 => ?_
   refine swp_seq fun K30 hK30 => ?_
   refine swp_region ty_ok ?_
   try simp (maxSteps := 1000000)
   repeat' (first | apply And.intro | intro _)
   any_goals (first | (refine hK30 _ ?_; clear hK30) | omega | (simp_all <;> omega))
   refine swp_block ?_
   refine swp_loop 99 (fun m_ s_ => ∃ (r : Nat), (r ≤ bMany i) ∧ s_ = ⟨[(2, .ptr 0 0 0 1), (6, .ptr 82 0 0 1), (49, .sl 42 0 (bMany i) (bMany i)), (50, .int .i64 (bMany i : Nat)), (51, .int .i64 (r : Nat))], [(0, some ⟨.rows 4 [[.int .i64 0, .int .i64 0, .nil (.ints .i64 []), .nil (.ints .i64 [])]], true, 25⟩), (42, some ⟨.ints .i64 (bE i), false, 3⟩), (66, some ⟨.ints .i64 (rkP (bMany i) (bEnt i) r), false, 3⟩), (82, some ⟨.rows 4 [[.int .i64 (i : Nat), .int .i64 (bPlain i : Nat), .sl 42 0 (bMany i) (bMany i), .sl 66 0 (bMany i) (bMany i)]], true, 25⟩)], 99⟩ ∧ m_ = bMany i - r) _ ⟨[(2, .ptr 0 0 0 1), (6, .ptr 82 0 0 1), (49, .sl 42 0 (bMany i) (bMany i)), (50, .int .i64 (bMany i : Nat)), (51, .int .i64 (0 : Nat))], [(0, some ⟨.rows 4 [[.int .i64 0, .int .i64 0, .nil (.ints .i64 []), .nil (.ints .i64 [])]], true, 25⟩), (42, some ⟨.ints .i64 (bE i), false, 3⟩), (66, some ⟨.ints .i64 (rkP (bMany i) (bEnt i) 0), false, 3⟩), (82, some ⟨.rows 4 [[.int .i64 (i : Nat), .int .i64 (bPlain i : Nat), .sl 42 0 (bMany i) (bMany i), .sl 66 0 (bMany i) (bMany i)]], true, 25⟩)], 99⟩ ⟨by simp [getT, PV.lo, lo1], by simp [getH, Blk.lo, Cells.lo, lo1, rkP_zero, bE], rfl, by omega⟩ ⟨(0), by (first | omega | (simp_all <;> omega)), rfl, rfl⟩ ?_
   rintro m_ s_ ⟨r, hL31_0, rfl, rfl⟩ KL31 hL31
   have hrw := wnext (i := r) (by omega)
   refine swp_seq fun K32 hK32 => ?_
   refine swp_region ty_ok ?_
   try simp (maxSteps := 1000000)
   repeat' (first | apply And.intro | intro _)
   any_goals (first | (refine hK32 _ ?_; clear hK32) | omega | (simp_all <;> omega))
   refine swp_seq fun K33 hK33 => ?_
   refine swp_if fun C34 hC34 => ?_
   try simp (maxSteps := 1000000)
   refine hC34 _ (fun hc34 => ?_) (fun hc34 => ?_)
   ·clear hC34
    try simp at hc34
    refine swp_skip ?_
    try simp only [thn, inBlk]
    refine hK33 _ ?_; clear hK33
    refine swp_seq fun K35 hK35 => ?_
    refine swp_block ?_
    refine swp_seq fun K36 hK36 => ?_
    have hrr : r < bMany i := (by have h := hc34; omega)
    obtain ⟨hea, heb⟩ := hE.ea hrr
    have hel := hE.elen
    refine swp_region ty_ok ?_
    try simp (maxSteps := 1000000) [hea, hel]
    repeat' (first | apply And.intro | intro _)
    any_goals (first | (refine hK36 _ ?_; clear hK36) | omega | (simp_all <;> omega))
    have hrl := rkP_len (N := bMany i) (es := bEnt i) r
    have hset := rkP_set (N := bMany i) (es := bEnt i) (r := r)
    refine swp_region ty_ok ?_
    try simp (maxSteps := 1000000) [hset, hrl]
    repeat' (first | apply And.intro | intro _)
    any_goals (first | (refine hK35 _ ?_; clear hK35) | omega | (simp_all <;> omega))
    refine swp_region ty_ok ?_
    try simp (maxSteps := 1000000)
    repeat' apply And.intro
    any_goals (try omega)
    refine hL31 _ ⟨[(2, .ptr 0 0 0 1), (6, .ptr 82 0 0 1), (49, .sl 42 0 (bMany i) (bMany i)), (50, .int .i64 (bMany i : Nat)), (51, .int .i64 ((r + 1) : Nat))], [(0, some ⟨.rows 4 [[.int .i64 0, .int .i64 0, .nil (.ints .i64 []), .nil (.ints .i64 [])]], true, 25⟩), (42, some ⟨.ints .i64 (bE i), false, 3⟩), (66, some ⟨.ints .i64 (rkP (bMany i) (bEnt i) (r + 1)), false, 3⟩), (82, some ⟨.rows 4 [[.int .i64 (i : Nat), .int .i64 (bPlain i : Nat), .sl 42 0 (bMany i) (bMany i), .sl 66 0 (bMany i) (bMany i)]], true, 25⟩)], 99⟩ _ ?_ ⟨(r + 1), by (first | omega | (simp_all <;> omega)), rfl, rfl⟩ ⟨by simp [getT, PV.lo, lo1, hrw], by simp [getH, Blk.lo, Cells.lo, lo1], rfl, by omega⟩
    omega
   ·clear hC34
    try simp at hc34
    refine swp_exit ?_
    simp [thn, inBlk]
    refine hK29 _ ?_; clear hK29
    refine swp_seq fun K37 hK37 => ?_
    refine swp_region ty_ok ?_
    try simp (maxSteps := 1000000)
    repeat' (first | apply And.intro | intro _)
    any_goals (first | (refine hK37 _ ?_; clear hK37) | omega | (simp_all <;> omega))
    refine swp_ret ?_
    simp [fnPost, Try.results35, resP, tupOf]
    have hr : r = bMany i := (by omega)
    rw [hr]
    exact ⟨hE.elen, rkP_len _, by rw [hE.rk]; rfl⟩

theorem valu_ok (i : Nat) (h1 : 1 ≤ i) (h2 : i ≤ 12) (e : Nat) (he : e < bMany i) : PCall Try.prog 56 [.int .i64 (i : Nat), .int .i64 (e : Nat)] (.tup [.ro (.ints .i64 (bVal i e)), .int .i64 0]) := by
 have hB := bk_ok h1 h2
 have hdim := hB.dim
 have hlow := hB.low
 have hhigh := hB.high
 have hwide := hB.wide
 have hmany := hB.many
 have hplain := hB.plain
 refine pcall_body ty_ok Try.func56 rfl (by rfl) (by simp) ?_
 rw [Try.ntmps56]
 refine swp_seq fun K1 hK1 => ?_
 refine swp_region ty_ok ?_
 try simp (maxSteps := 1000000)
 repeat' (first | apply And.intro | intro _)
 any_goals (first | (refine hK1 _ ?_; clear hK1) | omega | (simp_all <;> omega))
 refine swp_seq fun K2 hK2 => ?_
 refine swp_region ty_ok ?_
 refine runs_cut 1 fun R3 hR3 => ?_
 try simp (maxSteps := 1000000) [List.take_succ_cons, List.take_zero, List.drop_succ_cons, List.drop_zero]
 repeat' (first | apply And.intro | intro _)
 any_goals (first | (refine hR3 _ ?_; clear hR3) | omega | (simp_all <;> omega))
 refine runs_cut 1 fun R4 hR4 => ?_
 try simp (maxSteps := 1000000) [List.take_succ_cons, List.take_zero, List.drop_succ_cons, List.drop_zero]
 refine .inl ⟨_, of_ok i h1 h2, ?_⟩
 try simp (maxSteps := 1000000)
 repeat' (first | apply And.intro | intro _)
 any_goals (first | (refine hR4 _ ?_; clear hR4) | omega | (simp_all <;> omega))
 try simp (maxSteps := 1000000) [List.take_succ_cons, List.take_zero, List.drop_succ_cons, List.drop_zero]
 repeat' (first | apply And.intro | intro _)
 any_goals (first | (refine hK2 _ ?_; clear hK2) | omega | (simp_all <;> omega))
 refine swp_seq fun K5 hK5 => ?_
 refine swp_seq fun K6 hK6 => ?_
 refine swp_region ty_ok ?_
 refine runs_cut 9 fun R7 hR7 => ?_
 try simp (maxSteps := 1000000) [List.take_succ_cons, List.take_zero, List.drop_succ_cons, List.drop_zero]
 repeat' (first | apply And.intro | intro _)
 any_goals (first | (refine hR7 _ ?_; clear hR7) | omega | (simp_all <;> omega))
 refine runs_cut 1 fun R8 hR8 => ?_
 try simp (maxSteps := 1000000) [List.take_succ_cons, List.take_zero, List.drop_succ_cons, List.drop_zero]
 first | refine .inl ⟨_, fun hb => .inl ⟨many_ok i h1 h2, rfl⟩, ?_⟩ | refine .inl ⟨_, .inl ⟨many_ok i h1 h2, rfl⟩, ?_⟩ | refine .inl ⟨_, fun hb => .inl (many_ok i h1 h2), ?_⟩ | refine .inl ⟨_, .inl (many_ok i h1 h2), ?_⟩ | refine .inl ⟨_, by (intros; exact Or.inl (many_ok i h1 h2)), ?_⟩ | refine .inl ⟨_, by (intros; exact Or.inl ⟨many_ok i h1 h2, rfl⟩), ?_⟩ | refine .inl ⟨_, fun hb => .inl ⟨_, many_ok i h1 h2, by (try simp); exact ⟨rfl, rfl⟩⟩, ?_⟩ | refine ⟨_, fun hb => .inl ⟨many_ok i h1 h2, rfl⟩, ?_⟩ | refine ⟨_, .inl ⟨many_ok i h1 h2, rfl⟩, ?_⟩ | refine ⟨_, fun hb => .inl (many_ok i h1 h2), ?_⟩ | refine ⟨_, .inl (many_ok i h1 h2), ?_⟩ | refine ⟨_, by (intros; exact Or.inl (many_ok i h1 h2)), ?_⟩ | refine ⟨_, by (intros; exact Or.inl ⟨many_ok i h1 h2, rfl⟩), ?_⟩ | refine ⟨_, fun hb => .inl ⟨_, many_ok i h1 h2, by (try simp); exact ⟨rfl, rfl⟩⟩, ?_⟩
 repeat' (first | apply And.intro | intro _)
 any_goals (first | (refine hR8 _ ?_; clear hR8) | omega | (simp_all <;> omega))
 try simp (maxSteps := 1000000) [List.take_succ_cons, List.take_zero, List.drop_succ_cons, List.drop_zero]
 repeat' (first | apply And.intro | intro _)
 any_goals (first | (refine hK6 _ ?_; clear hK6) | omega | (simp_all <;> omega))
 refine swp_if fun C9 hC9 => ?_
 try simp (maxSteps := 1000000)
 refine hC9 _ (fun hc9 => ?_) (fun hc9 => ?_)
 ·exfalso
  have h := hc9
  simp at h
  omega
 ·clear hC9
  try simp at hc9
  refine swp_skip ?_
  try simp only [thn, inBlk]
  refine hK5 _ ?_; clear hK5
  refine swp_seq fun K10 hK10 => ?_
  refine swp_region ty_ok ?_
  refine runs_cut 2 fun R11 hR11 => ?_
  try simp (maxSteps := 1000000) [List.take_succ_cons, List.take_zero, List.drop_succ_cons, List.drop_zero]
  repeat' (first | apply And.intro | intro _)
  any_goals (first | (refine hR11 _ ?_; clear hR11) | omega | (simp_all <;> omega))
  refine runs_cut 1 fun R12 hR12 => ?_
  try simp (maxSteps := 1000000) [List.take_succ_cons, List.take_zero, List.drop_succ_cons, List.drop_zero]
  refine .inl ⟨_, values_ok i h1 h2 e he, ?_⟩
  try simp (maxSteps := 1000000)
  repeat' (first | apply And.intro | intro _)
  any_goals (first | (refine hR12 _ ?_; clear hR12) | omega | (simp_all <;> omega))
  try simp (maxSteps := 1000000) [List.take_succ_cons, List.take_zero, List.drop_succ_cons, List.drop_zero]
  repeat' (first | apply And.intro | intro _)
  any_goals (first | (refine hK10 _ ?_; clear hK10) | omega | (simp_all <;> omega))
  refine swp_ret ?_
  simp [fnPost, Try.results56, resP, tupOf]

theorem ent_ok (i : Nat) (h1 : 1 ≤ i) (h2 : i ≤ 12) (vs : List Int) : PCall Try.prog 44 [.int .i64 (i : Nat), .ro (.ints .i64 vs)] (.tup [.int .i64 (entV i vs), .int .i64 (entE i vs)]) := by
 have hB := bk_ok h1 h2
 have hdim := hB.dim
 have hlow := hB.low
 have hhigh := hB.high
 have hwide := hB.wide
 have hmany := hB.many
 have hplain := hB.plain
 refine pcall_body ty_ok Try.func44 rfl (by rfl) (by simp) ?_
 rw [Try.ntmps44]
 refine swp_seq fun K1 hK1 => ?_
 refine swp_region ty_ok ?_
 try simp (maxSteps := 1000000)
 repeat' (first | apply And.intro | intro _)
 any_goals (first | (refine hK1 _ ?_; clear hK1) | omega | (simp_all <;> omega))
 refine swp_seq fun K2 hK2 => ?_
 refine swp_region ty_ok ?_
 refine runs_cut 1 fun R3 hR3 => ?_
 try simp (maxSteps := 1000000) [List.take_succ_cons, List.take_zero, List.drop_succ_cons, List.drop_zero]
 repeat' (first | apply And.intro | intro _)
 any_goals (first | (refine hR3 _ ?_; clear hR3) | omega | (simp_all <;> omega))
 refine runs_cut 1 fun R4 hR4 => ?_
 try simp (maxSteps := 1000000) [List.take_succ_cons, List.take_zero, List.drop_succ_cons, List.drop_zero]
 refine .inl ⟨_, of_ok i h1 h2, ?_⟩
 try simp (maxSteps := 1000000)
 repeat' (first | apply And.intro | intro _)
 any_goals (first | (refine hR4 _ ?_; clear hR4) | omega | (simp_all <;> omega))
 try simp (maxSteps := 1000000) [List.take_succ_cons, List.take_zero, List.drop_succ_cons, List.drop_zero]
 repeat' (first | apply And.intro | intro _)
 any_goals (first | (refine hK2 _ ?_; clear hK2) | omega | (simp_all <;> omega))
 refine swp_seq fun K5 hK5 => ?_
 refine swp_block ?_
 refine swp_seq fun K6 hK6 => ?_
 refine swp_region ty_ok ?_
 try simp (maxSteps := 1000000)
 repeat' (first | apply And.intro | intro _)
 any_goals (first | (refine hK6 _ ?_; clear hK6) | omega | (simp_all <;> omega))
 refine swp_if fun C7 hC7 => ?_
 try simp (maxSteps := 1000000)
 refine hC7 _ (fun hc7 => ?_) (fun hc7 => ?_)
 ·exact absurd hc7 (by simp)
 ·clear hC7
  try simp at hc7
  refine swp_seq fun K8 hK8 => ?_
  refine swp_region ty_ok ?_
  try simp (maxSteps := 1000000)
  repeat' (first | apply And.intro | intro _)
  any_goals (first | (refine hK8 _ ?_; clear hK8) | omega | (simp_all <;> omega))
  refine swp_if fun C9 hC9 => ?_
  try simp (maxSteps := 1000000)
  refine hC9 _ (fun hc9 => ?_) (fun hc9 => ?_)
  ·clear hC9
   try simp at hc9
   refine swp_seq fun K10 hK10 => ?_
   refine swp_region ty_ok ?_
   try simp (maxSteps := 1000000)
   repeat' (first | apply And.intro | intro _)
   any_goals (first | (refine hK10 _ ?_; clear hK10) | omega | (simp_all <;> omega))
   refine swp_ret ?_
   simp [fnPost, Try.results44, resP, tupOf]
   obtain ⟨h1, h2⟩ := entE_many (i := i) (vs := vs) (by have h := hc9; omega)
   exact ⟨h2, h1⟩
  ·clear hC9
   try simp at hc9
   refine swp_skip ?_
   try simp only [thn, inBlk]
   refine hK5 _ ?_; clear hK5
   refine swp_seq fun K11 hK11 => ?_
   refine swp_region ty_ok ?_
   try simp (maxSteps := 1000000)
   repeat' (first | apply And.intro | intro _)
   any_goals (first | (refine hK11 _ ?_; clear hK11) | omega | (simp_all <;> omega))
   refine swp_seq fun K12 hK12 => ?_
   refine swp_seq fun K13 hK13 => ?_
   refine swp_region ty_ok ?_
   try simp (maxSteps := 1000000)
   repeat' (first | apply And.intro | intro _)
   any_goals (first | (refine hK13 _ ?_; clear hK13) | omega | (simp_all <;> omega))
   refine swp_block ?_
   have hlen : vs.length = bDim i := (by have h := hc9; omega)
   refine swp_loop 1 (fun m_ s_ => ∃ (j : Nat), (j ≤ vs.length) ∧ (∀ v ∈ vs.take j, inR i v = true) ∧ s_ = ⟨[(1, .ro (.ints .i64 vs)), (6, .ptr 0 0 0 1), (8, .int .i64 (entN i (vs.take j) : Nat)), (26, .ro (.ints .i64 vs)), (27, .int .i64 vs.length), (28, .int .i64 (j : Nat))], [(0, some ⟨.rows 4 [[.int .i64 (bDim i : Nat), .int .i64 (bLow i), .int .i64 (bHigh i), .int .i64 (bPlain i : Nat)]], true, 115⟩)], 1⟩ ∧ m_ = vs.length - j) _ ⟨[(1, .ro (.ints .i64 vs)), (6, .ptr 0 0 0 1), (8, .int .i64 (entN i (vs.take 0) : Nat)), (26, .ro (.ints .i64 vs)), (27, .int .i64 vs.length), (28, .int .i64 (0 : Nat))], [(0, some ⟨.rows 4 [[.int .i64 (bDim i : Nat), .int .i64 (bLow i), .int .i64 (bHigh i), .int .i64 (bPlain i : Nat)]], true, 115⟩)], 1⟩ ⟨by simp [getT, PV.lo, lo1, entN], by simp [getH, Blk.lo, Cells.lo, lo1], rfl, by omega⟩ ⟨(0), by omega, by simp, rfl, rfl⟩ ?_
   rintro m_ s_ ⟨j, hL14_0, hL14_1, rfl, rfl⟩ KL14 hL14
   have hjw := wnext (i := j) (by omega)
   have hall := (by assumption : ∀ v ∈ vs.take j, inR i v = true)
   refine swp_seq fun K15 hK15 => ?_
   refine swp_region ty_ok ?_
   try simp (maxSteps := 1000000)
   repeat' (first | apply And.intro | intro _)
   any_goals (first | (refine hK15 _ ?_; clear hK15) | omega | (simp_all <;> omega))
   refine swp_seq fun K16 hK16 => ?_
   refine swp_if fun C17 hC17 => ?_
   try simp (maxSteps := 1000000)
   refine hC17 _ (fun hc17 => ?_) (fun hc17 => ?_)
   ·clear hC17
    try simp at hc17
    refine swp_skip ?_
    try simp only [thn, inBlk]
    refine hK16 _ ?_; clear hK16
    refine swp_seq fun K18 hK18 => ?_
    refine swp_block ?_
    refine swp_seq fun K19 hK19 => ?_
    refine swp_region ty_ok ?_
    try simp (maxSteps := 1000000)
    repeat' (first | apply And.intro | intro _)
    any_goals (first | (refine hK19 _ ?_; clear hK19) | omega | (simp_all <;> omega))
    refine swp_seq fun K20 hK20 => ?_
    refine swp_seq fun K21 hK21 => ?_
    refine swp_region ty_ok ?_
    try simp (maxSteps := 1000000)
    repeat' (first | apply And.intro | intro _)
    any_goals (first | (refine hK21 _ ?_; clear hK21) | omega | (simp_all <;> omega))
    refine swp_if fun C22 hC22 => ?_
    try simp (maxSteps := 1000000)
    refine hC22 _ (fun hc22 => ?_) (fun hc22 => ?_)
    ·clear hC22
     try simp at hc22
     refine swp_seq fun K23 hK23 => ?_
     refine swp_region ty_ok ?_
     try simp (maxSteps := 1000000)
     repeat' (first | apply And.intro | intro _)
     any_goals (first | (refine hK23 _ ?_; clear hK23) | omega | (simp_all <;> omega))
     refine swp_ret ?_
     simp [fnPost, Try.results44, resP, tupOf]
     obtain ⟨h1, h2⟩ := entE_arg (i := i) (vs := vs) hlen (j := j) (by omega) (by have h := hc22; simp [inR]; omega)
     exact ⟨h2, h1⟩
    ·clear hC22
     try simp at hc22
     refine swp_skip ?_
     try simp only [thn, inBlk]
     refine hK20 _ ?_; clear hK20
     have hj : j < vs.length := (by omega)
     have hin : inR i (vs[j]?.getD 0) = true := (by have h := hc22; simp [inR]; omega)
     have hbd0 := entN_bd hB _ (inR_snoc hj hall hin)
     have hpw := bPow_le hB (j := (vs.take (j + 1)).length) (by simp; omega)
     unfold bPow at hpw
     have hsn := entN_take (i := i) hj
     obtain ⟨v, hv⟩ : ∃ v, vs[j]?.getD 0 = v := ⟨_, rfl⟩
     have hin2 := hin
     rw [hv] at hin2 hsn
     simp only [inR, decide_eq_true_eq] at hin2
     obtain ⟨w, hw⟩ : ∃ w : Nat, (w : Int) = v - bLow i := ⟨(v - bLow i).toNat, by omega⟩
     have hw2 : (v - bLow i).toNat = w := (by omega)
     rw [hw2] at hsn
     obtain ⟨q, hq⟩ : ∃ q, entN i (vs.take j) * bWide i = q := ⟨_, rfl⟩
     rw [hq] at hsn
     have hmul : IntKind.i64.wrap ((entN i (vs.take j) : Nat) * (bWide i : Nat) : Int) = (q : Nat) := by rw [w64 (by rw [← Int.natCast_mul, hq]; omega), ← Int.natCast_mul, hq]
     have hadd : IntKind.i64.wrap ((q : Nat) + vs[j]?.getD 0 : Int) = (q : Nat) + v := by rw [hv, w64 (by omega)]
     have hsub : IntKind.i64.wrap ((q : Nat) + v - bLow i : Int) = (entN i (vs.take (j + 1)) : Nat) := by rw [w64 (by omega), hsn]; omega
     refine swp_draw ty_ok mixed (ms := [0, 0, 2, 7, 0, 31, 0, 64, 255, 511]) (by kernel_rfl) ?_
     refine runD_cut 2 fun R24 hR24 => ?_
     try simp (maxSteps := 1000000) [hmul, hadd, hsub, List.take_succ_cons, List.take_zero, List.drop_succ_cons, List.drop_zero]
     repeat' (first | apply And.intro | intro _)
     any_goals (first | (refine hR24 _ _ _ _ ?_; clear hR24) | omega | (simp_all <;> omega))
     refine runD_cut 1 fun R25 hR25 => ?_
     try simp (maxSteps := 1000000) [hmul, hadd, hsub, List.take_succ_cons, List.take_zero, List.drop_succ_cons, List.drop_zero]
     refine .inl ⟨_, wide_ok i h1 h2, ?_⟩
     try simp (maxSteps := 1000000) [hmul, hadd, hsub]
     repeat' (first | apply And.intro | intro _)
     any_goals (first | (refine hR25 _ _ _ _ ?_; clear hR25) | omega | (simp_all <;> omega))
     try simp (maxSteps := 1000000) [hmul, hadd, hsub, List.take_succ_cons, List.take_zero, List.drop_succ_cons, List.drop_zero]
     repeat' (first | apply And.intro | intro _)
     any_goals (first | kernel_rfl | (refine hK18 _ ?_; clear hK18) | omega | (simp_all <;> omega))
     refine swp_region ty_ok ?_
     try simp (maxSteps := 1000000)
     repeat' apply And.intro
     any_goals (try omega)
     refine hL14 _ ⟨[(1, .ro (.ints .i64 vs)), (6, .ptr 0 0 0 1), (8, .int .i64 (entN i (vs.take (j + 1)) : Nat)), (26, .ro (.ints .i64 vs)), (27, .int .i64 vs.length), (28, .int .i64 ((j + 1) : Nat))], [(0, some ⟨.rows 4 [[.int .i64 (bDim i : Nat), .int .i64 (bLow i), .int .i64 (bHigh i), .int .i64 (bPlain i : Nat)]], true, 115⟩)], 1⟩ _ ?_ ⟨(j + 1), by omega, by exact inR_snoc hj hall hin, rfl, rfl⟩ ⟨by simp [getT, PV.lo, lo1, hjw], by simp [getH, Blk.lo, Cells.lo, lo1], rfl, by omega⟩
     omega
   ·clear hC17
    try simp at hc17
    refine swp_exit ?_
    simp [thn, inBlk]
    refine hK12 _ ?_; clear hK12
    refine swp_seq fun K27 hK27 => ?_
    refine swp_region ty_ok ?_
    try simp (maxSteps := 1000000)
    repeat' (first | apply And.intro | intro _)
    any_goals (first | (refine hK27 _ ?_; clear hK27) | omega | (simp_all <;> omega))
    refine swp_ret ?_
    simp [fnPost, Try.results44, resP, tupOf]
    have hj : j = vs.length := (by omega)
    subst hj
    rw [List.take_length] at *
    obtain ⟨h1, h2⟩ := entE_fin hlen hall
    exact ⟨h2, h1⟩

end Go.Proofs.Ytgheplondkoedaa

