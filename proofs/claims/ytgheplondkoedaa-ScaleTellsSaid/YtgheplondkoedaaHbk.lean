import Derived.Test.YtgheplondkoedaaWf
import Derived.Test.YtgheplondkoedaaTyh
import Derived.Test.YtgheplondkoedaaBke
import Derived.Test.YtgheplondkoedaaHsrt
namespace Go.Proofs.Ytgheplondkoedaa
set_option linter.unusedVariables false
set_option linter.unusedSimpArgs false
set_option maxRecDepth 10000
open Go Go.Pv

def kindL : List PV := [.int .i64 0, .int .i64 0, .int .i64 0, .int .i64 0, .int .i64 4, .int .i64 (-1), .int .i64 1, .int .i64 0, .int .i64 4, .int .i64 (-1), .int .i64 1, .int .i64 1, .int .i64 4, .int .i64 0, .int .i64 2, .int .i64 0, .int .i64 4, .int .i64 0, .int .i64 2, .int .i64 1, .int .i64 2, .int .i64 (-4), .int .i64 4, .int .i64 0, .int .i64 2, .int .i64 (-4), .int .i64 4, .int .i64 1, .int .i64 2, .int .i64 0, .int .i64 7, .int .i64 1, .int .i64 2, .int .i64 0, .int .i64 7, .int .i64 2, .int .i64 2, .int .i64 0, .int .i64 12, .int .i64 1, .int .i64 2, .int .i64 0, .int .i64 12, .int .i64 2, .int .i64 2, .int .i64 0, .int .i64 16, .int .i64 2, .int .i64 1, .int .i64 (-60), .int .i64 60, .int .i64 0]
theorem kindL_len : kindL.length = 52 := rfl
def KA (i : Nat) : List PV := [.int .i64 (bDim i : Nat), .int .i64 (bLow i), .int .i64 (bHigh i), .int .i64 (bPlain i : Nat)]
theorem kindL_at : ∀ {i : Nat}, i ≤ 12 → (kindL.drop (i * 4)).take 4 = KA i
 | 0, _ => rfl
 | 1, _ => rfl
 | 2, _ => rfl
 | 3, _ => rfl
 | 4, _ => rfl
 | 5, _ => rfl
 | 6, _ => rfl
 | 7, _ => rfl
 | 8, _ => rfl
 | 9, _ => rfl
 | 10, _ => rfl
 | 11, _ => rfl
 | 12, _ => rfl
 | n + 13, h => absurd h (by omega)
theorem toNat_mul (i : Nat) : ((i : Int)).toNat = i := by omega
def VI (i j : Nat) : List Int := List.replicate j (bLow i) ++ List.replicate (4 - j) 0
theorem VI_len {i j : Nat} (h : j ≤ 4) : (VI i j).length = 4 := by simp [VI]; omega
theorem VI_set {i j : Nat} (h : j < 4) : (VI i j).set j (bLow i) = VI i (j + 1) := by
 unfold VI
 rw [List.set_append_right _ _ (by simp), List.length_replicate, Nat.sub_self, show 4 - j = (4 - (j + 1)) + 1 by omega, List.replicate_succ, List.replicate_succ']
 simp
theorem VI_end {i : Nat} (h : BkOk i) : VI i (bDim i) = VO i (bDim i) 0 := VO_zero h
theorem absL_nil : absL [] = 0 := rfl

attribute [local simp] runs gd step1 need evu un opnds opv ev cst cst1 cstL getT getH putT onL nxt argT cellsOf PV.one thn inBlk jmp fldP ldP ldC live Cells.len Cells.get Cells.w sug ldv bin eqF eq1 ops2 sh2 binv Tk.agg stC apC rdS apS cpC cpS mvL zp argsP idx fillP toInts chunks mkC ixS ixA oidx slP sl0 slA optL List.append mxF bltn frzA frz frzL frz1 pur1 Cells.pur PV.scal scal1 runD rdO PV.ids id1 zids ety Eff.on cnd minb and1b ifmax ifmin mxv sugI strv w0 w1 w2 wm1
theorem kinds_ok  : PCall Try.prog 105 [] (.agg kindL) := by
 refine pcall_body ty_ok Try.func105 rfl (by rfl) (by simp) ?_
 rw [Try.ntmps105]
 refine swp_seq fun K1 hK1 => ?_
 refine swp_region ty_ok ?_
 try simp (maxSteps := 1000000) [kindL, List.replicate_succ]
 repeat' (first | apply And.intro | intro _)
 any_goals (first | (refine hK1 _ ?_; clear hK1) | omega | (simp_all <;> omega))
 refine swp_seq fun K2 hK2 => ?_
 refine swp_region ty_ok ?_
 refine runs_cut 7 fun R3 hR3 => ?_
 try simp (maxSteps := 1000000) [kindL, List.replicate_succ, List.take_succ_cons, List.take_zero, List.drop_succ_cons, List.drop_zero]
 repeat' (first | apply And.intro | intro _)
 any_goals (first | (refine hR3 _ ?_; clear hR3) | omega | (simp_all <;> omega))
 try simp (maxSteps := 1000000) [kindL, List.replicate_succ, List.take_succ_cons, List.take_zero, List.drop_succ_cons, List.drop_zero]
 repeat' (first | apply And.intro | intro _)
 any_goals (first | (refine hK2 _ ?_; clear hK2) | omega | (simp_all <;> omega))
 refine swp_ret ?_
 simp [fnPost, Try.results105, resP, tupOf]
 rfl

theorem of_ok (i : Nat) (h1 : 1 ≤ i) (h2 : i ≤ 12)  : PCall Try.prog 69 [.int .i64 (i : Nat)] (.tup [.agg [.int .i64 (bDim i : Nat), .int .i64 (bLow i), .int .i64 (bHigh i), .int .i64 (bPlain i : Nat)], .int .i64 0]) := by
 have hk := kindL_at h2
 unfold KA at hk
 refine pcall_body ty_ok Try.func69 rfl (by rfl) (by simp) ?_
 rw [Try.ntmps69]
 refine swp_seq fun K1 hK1 => ?_
 refine swp_region ty_ok ?_
 try simp (maxSteps := 1000000) [kindL_len, hk, toNat_mul]
 repeat' (first | apply And.intro | intro _)
 any_goals (first | (refine hK1 _ ?_; clear hK1) | omega | (simp_all <;> omega))
 refine swp_seq fun K2 hK2 => ?_
 refine swp_seq fun K3 hK3 => ?_
 refine swp_region ty_ok ?_
 try simp (maxSteps := 1000000) [kindL_len, hk, toNat_mul]
 repeat' (first | apply And.intro | intro _)
 any_goals (first | (refine hK3 _ ?_; clear hK3) | omega | (simp_all <;> omega))
 refine swp_if fun C4 hC4 => ?_
 try simp (maxSteps := 1000000) [kindL_len, hk, toNat_mul]
 refine hC4 _ (fun hc4 => ?_) (fun hc4 => ?_)
 ·exfalso
  have h := hc4
  simp at h
  omega
 ·clear hC4
  try simp at hc4
  refine swp_skip ?_
  try simp only [thn, inBlk]
  refine hK2 _ ?_; clear hK2
  refine swp_seq fun K5 hK5 => ?_
  refine swp_region ty_ok ?_
  refine runs_cut 1 fun R6 hR6 => ?_
  try simp (maxSteps := 1000000) [kindL_len, hk, toNat_mul, List.take_succ_cons, List.take_zero, List.drop_succ_cons, List.drop_zero]
  refine .inl ⟨_, kinds_ok, ?_⟩
  try simp (maxSteps := 1000000) [kindL_len, hk, toNat_mul]
  repeat' (first | apply And.intro | intro _)
  any_goals (first | (refine hR6 _ ?_; clear hR6) | omega | (simp_all <;> omega))
  try simp (maxSteps := 1000000) [kindL_len, hk, toNat_mul, List.take_succ_cons, List.take_zero, List.drop_succ_cons, List.drop_zero]
  repeat' (first | apply And.intro | intro _)
  any_goals (first | (refine hK5 _ ?_; clear hK5) | omega | (simp_all <;> omega))
  refine swp_ret ?_
  simp [fnPost, Try.results69, resP, tupOf]

theorem of_no (n : Int) (h : n < 1 ∨ 12 < n) : PCall Try.prog 69 [.int .i64 n] (.tup [.agg [.int .i64 0, .int .i64 0, .int .i64 0, .int .i64 0], .int .i64 2]) := by
 refine pcall_body ty_ok Try.func69 rfl (by rfl) (by simp) ?_
 rw [Try.ntmps69]
 refine swp_seq fun K1 hK1 => ?_
 refine swp_region ty_ok ?_
 try simp (maxSteps := 1000000)
 repeat' (first | apply And.intro | intro _)
 any_goals (first | (refine hK1 _ ?_; clear hK1) | omega | (simp_all <;> omega))
 refine swp_seq fun K2 hK2 => ?_
 refine swp_seq fun K3 hK3 => ?_
 refine swp_region ty_ok ?_
 try simp (maxSteps := 1000000)
 repeat' (first | apply And.intro | intro _)
 any_goals (first | (refine hK3 _ ?_; clear hK3) | omega | (simp_all <;> omega))
 refine swp_if fun C4 hC4 => ?_
 try simp (maxSteps := 1000000)
 refine hC4 _ (fun hc4 => ?_) (fun hc4 => ?_)
 ·clear hC4
  try simp at hc4
  refine swp_seq fun K5 hK5 => ?_
  refine swp_region ty_ok ?_
  try simp (maxSteps := 1000000)
  repeat' (first | apply And.intro | intro _)
  any_goals (first | (refine hK5 _ ?_; clear hK5) | omega | (simp_all <;> omega))
  refine swp_ret ?_
  simp [fnPost, Try.results69, resP, tupOf]
 ·exfalso
  have h := hc4
  simp at h
  omega

theorem wide_ok (i : Nat) (h1 : 1 ≤ i) (h2 : i ≤ 12)  : PCall Try.prog 81 [.agg [.int .i64 (bDim i : Nat), .int .i64 (bLow i), .int .i64 (bHigh i), .int .i64 (bPlain i : Nat)]] (.int .i64 (bWide i : Nat)) := by
 have hB := bk_ok h1 h2
 have hdim := hB.dim
 have hlow := hB.low
 have hhigh := hB.high
 have hwide := hB.wide
 have hmany := hB.many
 have hplain := hB.plain
 have hs : IntKind.i64.wrap (bHigh i - bLow i) = bHigh i - bLow i := w64 (by omega)
 have hs2 : IntKind.i64.wrap (bHigh i - bLow i + 1) = (bWide i : Nat) := by rw [w64 (by omega)]; omega
 refine pcall_body ty_ok Try.func81 rfl (by rfl) (by simp) ?_
 rw [Try.ntmps81]
 refine swp_seq fun K1 hK1 => ?_
 refine swp_region ty_ok ?_
 try simp (maxSteps := 1000000) [hs, hs2]
 repeat' (first | apply And.intro | intro _)
 any_goals (first | (refine hK1 _ ?_; clear hK1) | omega | (simp_all <;> omega))
 refine swp_seq fun K2 hK2 => ?_
 refine swp_region ty_ok ?_
 try simp (maxSteps := 1000000) [hs, hs2]
 repeat' (first | apply And.intro | intro _)
 any_goals (first | (refine hK2 _ ?_; clear hK2) | omega | (simp_all <;> omega))
 refine swp_ret ?_
 simp [fnPost, Try.results81, resP, tupOf]

theorem many_ok (i : Nat) (h1 : 1 ≤ i) (h2 : i ≤ 12)  : PCall Try.prog 70 [.agg [.int .i64 (bDim i : Nat), .int .i64 (bLow i), .int .i64 (bHigh i), .int .i64 (bPlain i : Nat)]] (.int .i64 (bMany i : Nat)) := by
 have hB := bk_ok h1 h2
 have hdim := hB.dim
 have hlow := hB.low
 have hhigh := hB.high
 have hwide := hB.wide
 have hmany := hB.many
 have hplain := hB.plain
 refine pcall_body ty_ok Try.func70 rfl (by rfl) (by simp) ?_
 rw [Try.ntmps70]
 refine swp_seq fun K1 hK1 => ?_
 refine swp_region ty_ok ?_
 try simp (maxSteps := 1000000)
 repeat' (first | apply And.intro | intro _)
 any_goals (first | (refine hK1 _ ?_; clear hK1) | omega | (simp_all <;> omega))
 refine swp_seq fun K2 hK2 => ?_
 refine swp_region ty_ok ?_
 try simp (maxSteps := 1000000)
 repeat' (first | apply And.intro | intro _)
 any_goals (first | (refine hK2 _ ?_; clear hK2) | omega | (simp_all <;> omega))
 refine swp_seq fun K3 hK3 => ?_
 refine swp_seq fun K4 hK4 => ?_
 refine swp_region ty_ok ?_
 try simp (maxSteps := 1000000)
 repeat' (first | apply And.intro | intro _)
 any_goals (first | (refine hK4 _ ?_; clear hK4) | omega | (simp_all <;> omega))
 refine swp_block ?_
 refine swp_loop 1 (fun m_ s_ => ∃ (j : Nat), (j ≤ bDim i) ∧ s_ = ⟨[(1, .ptr 0 0 0 1), (5, .int .i64 (bDim i : Nat)), (6, .int .i64 (j : Nat)), (3, .int .i64 (bPow i j : Nat))], [(0, some ⟨.rows 4 [[.int .i64 (bDim i : Nat), .int .i64 (bLow i), .int .i64 (bHigh i), .int .i64 (bPlain i : Nat)]], true, 115⟩)], 1⟩ ∧ m_ = bDim i - j) _ ⟨[(1, .ptr 0 0 0 1), (5, .int .i64 (bDim i : Nat)), (6, .int .i64 (0 : Nat)), (3, .int .i64 (bPow i 0 : Nat))], [(0, some ⟨.rows 4 [[.int .i64 (bDim i : Nat), .int .i64 (bLow i), .int .i64 (bHigh i), .int .i64 (bPlain i : Nat)]], true, 115⟩)], 1⟩ ⟨by simp [getT, PV.lo, lo1, bPow_zero], by simp [getH, Blk.lo, Cells.lo, lo1], rfl, by omega⟩ ⟨(0), by (first | omega | (simp_all <;> omega)), rfl, rfl⟩ ?_
 rintro m_ s_ ⟨j, hL5_0, rfl, rfl⟩ KL5 hL5
 have hjw := wnext (i := j) (by omega)
 refine swp_seq fun K6 hK6 => ?_
 refine swp_region ty_ok ?_
 try simp (maxSteps := 1000000)
 repeat' (first | apply And.intro | intro _)
 any_goals (first | (refine hK6 _ ?_; clear hK6) | omega | (simp_all <;> omega))
 refine swp_seq fun K7 hK7 => ?_
 refine swp_if fun C8 hC8 => ?_
 try simp (maxSteps := 1000000)
 refine hC8 _ (fun hc8 => ?_) (fun hc8 => ?_)
 ·clear hC8
  try simp at hc8
  refine swp_skip ?_
  try simp only [thn, inBlk]
  refine hK7 _ ?_; clear hK7
  refine swp_seq fun K9 hK9 => ?_
  refine swp_block ?_
  have hle := bPow_le hB (j := j + 1) (by have h := hc8; omega)
  have hmul : IntKind.i64.wrap ((bPow i j : Nat) * (bWide i : Nat) : Int) = ((bPow i (j + 1) : Nat) : Int) := by rw [w64 (by rw [← Int.natCast_mul, ← bPow_succ]; omega), bPow_succ, Int.natCast_mul]
  refine swp_region ty_ok ?_
  refine runs_cut 2 fun R10 hR10 => ?_
  try simp (maxSteps := 1000000) [hmul, List.take_succ_cons, List.take_zero, List.drop_succ_cons, List.drop_zero]
  repeat' (first | apply And.intro | intro _)
  any_goals (first | (refine hR10 _ ?_; clear hR10) | omega | (simp_all <;> omega))
  refine runs_cut 1 fun R11 hR11 => ?_
  try simp (maxSteps := 1000000) [hmul, List.take_succ_cons, List.take_zero, List.drop_succ_cons, List.drop_zero]
  refine .inl ⟨_, wide_ok i h1 h2, ?_⟩
  try simp (maxSteps := 1000000) [hmul]
  repeat' (first | apply And.intro | intro _)
  any_goals (first | (refine hR11 _ ?_; clear hR11) | omega | (simp_all <;> omega))
  try simp (maxSteps := 1000000) [hmul, List.take_succ_cons, List.take_zero, List.drop_succ_cons, List.drop_zero]
  repeat' (first | apply And.intro | intro _)
  any_goals (first | (refine hK9 _ ?_; clear hK9) | omega | (simp_all <;> omega))
  refine swp_region ty_ok ?_
  try simp (maxSteps := 1000000)
  repeat' apply And.intro
  any_goals (try omega)
  refine hL5 _ ⟨[(1, .ptr 0 0 0 1), (5, .int .i64 (bDim i : Nat)), (6, .int .i64 ((j + 1) : Nat)), (3, .int .i64 (bPow i (j + 1) : Nat))], [(0, some ⟨.rows 4 [[.int .i64 (bDim i : Nat), .int .i64 (bLow i), .int .i64 (bHigh i), .int .i64 (bPlain i : Nat)]], true, 115⟩)], 1⟩ _ ?_ ⟨(j + 1), by (first | omega | (simp_all <;> omega)), rfl, rfl⟩ ⟨by simp [getT, PV.lo, lo1, hjw], by simp [getH, Blk.lo, Cells.lo, lo1], rfl, by omega⟩
  omega
 ·clear hC8
  try simp at hc8
  refine swp_exit ?_
  simp [thn, inBlk]
  refine hK3 _ ?_; clear hK3
  refine swp_seq fun K12 hK12 => ?_
  refine swp_region ty_ok ?_
  try simp (maxSteps := 1000000)
  repeat' (first | apply And.intro | intro _)
  any_goals (first | (refine hK12 _ ?_; clear hK12) | omega | (simp_all <;> omega))
  refine swp_ret ?_
  simp [fnPost, Try.results70, resP, tupOf]
  have hj : j = bDim i := (by omega)
  subst hj
  rw [bPow_end hB]

set_option maxHeartbeats 2000000 in
theorem values_ok (i : Nat) (h1 : 1 ≤ i) (h2 : i ≤ 12) (e : Nat) (he : e < bMany i) : PCall Try.prog 98 [.agg [.int .i64 (bDim i : Nat), .int .i64 (bLow i), .int .i64 (bHigh i), .int .i64 (bPlain i : Nat)], .int .i64 (e : Nat)] (.ro (.ints .i64 (bVal i e))) := by
 have hB := bk_ok h1 h2
 have hdim := hB.dim
 have hlow := hB.low
 have hhigh := hB.high
 have hwide := hB.wide
 have hmany := hB.many
 have hplain := hB.plain
 refine pcall_body ty_ok Try.func98 rfl (by rfl) (by simp) ?_
 rw [Try.ntmps98]
 refine swp_seq fun K1 hK1 => ?_
 refine swp_region ty_ok ?_
 try simp (maxSteps := 1000000)
 repeat' (first | apply And.intro | intro _)
 any_goals (first | (refine hK1 _ ?_; clear hK1) | omega | (simp_all <;> omega))
 refine swp_seq fun K2 hK2 => ?_
 refine swp_region ty_ok ?_
 refine runs_cut 2 fun R3 hR3 => ?_
 try simp (maxSteps := 1000000) [List.take_succ_cons, List.take_zero, List.drop_succ_cons, List.drop_zero]
 repeat' (first | apply And.intro | intro _)
 any_goals (first | (refine hR3 _ ?_; clear hR3) | omega | (simp_all <;> omega))
 refine runs_cut 1 fun R4 hR4 => ?_
 try simp (maxSteps := 1000000) [List.take_succ_cons, List.take_zero, List.drop_succ_cons, List.drop_zero]
 repeat' (first | apply And.intro | intro _)
 any_goals (first | (refine Or.inr (hR4 _ ?_); clear hR4) | omega | (simp_all <;> omega))
 try simp (maxSteps := 1000000) [List.take_succ_cons, List.take_zero, List.drop_succ_cons, List.drop_zero]
 repeat' (first | apply And.intro | intro _)
 any_goals (first | (refine hK2 _ ?_; clear hK2) | omega | (simp_all <;> omega))
 refine swp_seq fun K5 hK5 => ?_
 refine swp_seq fun K6 hK6 => ?_
 have hd1 : IntKind.i64.wrap ((bDim i : Nat) - 1 : Int) = (bDim i : Nat) - 1 := w64 (by omega)
 refine swp_region ty_ok ?_
 try simp (maxSteps := 1000000) [hd1]
 repeat' (first | apply And.intro | intro _)
 any_goals (first | (refine hK6 _ ?_; clear hK6) | omega | (simp_all <;> omega))
 refine swp_block ?_
 refine swp_loop 2 (fun m_ s_ => ∃ (j : Nat) (q : Nat) (tl : List Int), (j + tl.length = bDim i) ∧ (q < bMany i) ∧ (bDg i j q ++ tl = bVal i e) ∧ s_ = ⟨[(1, .int .i64 (q : Nat)), (2, .ptr 0 0 0 1), (5, .sl 1 0 (bDim i) (bDim i)), (6, .int .i64 (((j : Nat) : Int) - 1))], [(0, some ⟨.rows 4 [[.int .i64 (bDim i : Nat), .int .i64 (bLow i), .int .i64 (bHigh i), .int .i64 (bPlain i : Nat)]], true, 115⟩), (1, some ⟨.ints .i64 (List.replicate j 0 ++ tl), false, 3⟩)], 2⟩ ∧ m_ = j + 1) _ ⟨[(1, .int .i64 (e : Nat)), (2, .ptr 0 0 0 1), (5, .sl 1 0 (bDim i) (bDim i)), (6, .int .i64 ((((bDim i) : Nat) : Int) - 1))], [(0, some ⟨.rows 4 [[.int .i64 (bDim i : Nat), .int .i64 (bLow i), .int .i64 (bHigh i), .int .i64 (bPlain i : Nat)]], true, 115⟩), (1, some ⟨.ints .i64 (List.replicate (bDim i) 0 ++ []), false, 3⟩)], 2⟩ ⟨by simp [getT, PV.lo, lo1], by simp [getH, Blk.lo, Cells.lo, lo1], rfl, by omega⟩ ⟨(bDim i), (e), ([]), by rfl, by exact he, by (rw [List.append_nil]; rfl), rfl, rfl⟩ ?_
 rintro m_ s_ ⟨j, q, tl, hL7_0, hL7_1, hL7_2, rfl, rfl⟩ KL7 hL7
 have hv := (by assumption : bDg i j q ++ tl = bVal i e)
 refine swp_seq fun K8 hK8 => ?_
 refine swp_seq fun K9 hK9 => ?_
 refine swp_region ty_ok ?_
 try simp (maxSteps := 1000000)
 repeat' (first | apply And.intro | intro _)
 any_goals (first | (refine hK9 _ ?_; clear hK9) | omega | (simp_all <;> omega))
 refine swp_if fun C10 hC10 => ?_
 try simp (maxSteps := 1000000)
 refine hC10 _ (fun hc10 => ?_) (fun hc10 => ?_)
 ·clear hC10
  try simp at hc10
  refine swp_skip ?_
  try simp only [thn, inBlk]
  refine hK8 _ ?_; clear hK8
  refine swp_seq fun K11 hK11 => ?_
  refine swp_block ?_
  have hj1 : 1 ≤ j := (by have h := hc10; omega)
  obtain ⟨r, hr⟩ : ∃ r, q % bWide i = r := ⟨_, rfl⟩
  obtain ⟨p, hp⟩ : ∃ p, q / bWide i = p := ⟨_, rfl⟩
  have hrw : r < bWide i := by rw [← hr]; exact Nat.mod_lt _ (by omega)
  have hrm := tmod_nat hr
  have hpd := tdiv_nat hp
  have hpq : p ≤ q := by rw [← hp]; exact Nat.div_le_self _ _
  have hrl : IntKind.i64.wrap ((r : Int) + bLow i) = bLow i + r := by rw [w64 (by omega)]; omega
  have hpw : IntKind.i64.wrap (p : Int) = p := w64 (by omega)
  have hset := rep_set (j := j) (v := bLow i + r) (tl := tl) (by omega)
  have hwn : ¬ (bWide i = 0) := (by omega)
  have hjt := (by assumption : j + tl.length = bDim i)
  refine swp_draw ty_ok mixed (ms := [0, 0, 0, 0, 8, 28, 0, 64, 252, 0, 0, 1048, 3608, 3583, 11775, 32767]) (by kernel_rfl) ?_
  refine runD_cut 4 fun R12 hR12 => ?_
  try simp (maxSteps := 1000000) [hrm, hpd, hrl, hpw, hwn, tnp, hset, hjt, List.take_succ_cons, List.take_zero, List.drop_succ_cons, List.drop_zero]
  repeat' (first | apply And.intro | intro _)
  any_goals (first | (refine hR12 _ _ _ _ ?_; clear hR12) | omega | (simp_all <;> omega))
  refine runD_cut 1 fun R13 hR13 => ?_
  try simp (maxSteps := 1000000) [hrm, hpd, hrl, hpw, hwn, tnp, hset, hjt, List.take_succ_cons, List.take_zero, List.drop_succ_cons, List.drop_zero]
  refine .inl ⟨_, wide_ok i h1 h2, ?_⟩
  try simp (maxSteps := 1000000) [hrm, hpd, hrl, hpw, hwn, tnp, hset, hjt]
  repeat' (first | apply And.intro | intro _)
  any_goals (first | (refine hR13 _ _ _ _ ?_; clear hR13) | omega | (simp_all <;> omega))
  refine runD_cut 6 fun R14 hR14 => ?_
  try simp (maxSteps := 1000000) [hrm, hpd, hrl, hpw, hwn, tnp, hset, hjt, List.take_succ_cons, List.take_zero, List.drop_succ_cons, List.drop_zero]
  repeat' (first | apply And.intro | intro _)
  any_goals (first | (refine hR14 _ _ _ _ ?_; clear hR14) | omega | (simp_all <;> omega))
  refine runD_cut 1 fun R15 hR15 => ?_
  try simp (maxSteps := 1000000) [hrm, hpd, hrl, hpw, hwn, tnp, hset, hjt, List.take_succ_cons, List.take_zero, List.drop_succ_cons, List.drop_zero]
  refine .inl ⟨_, wide_ok i h1 h2, ?_⟩
  try simp (maxSteps := 1000000) [hrm, hpd, hrl, hpw, hwn, tnp, hset, hjt]
  repeat' (first | apply And.intro | intro _)
  any_goals (first | (refine hR15 _ _ _ _ ?_; clear hR15) | omega | (simp_all <;> omega))
  try simp (maxSteps := 1000000) [hrm, hpd, hrl, hpw, hwn, tnp, hset, hjt, List.take_succ_cons, List.take_zero, List.drop_succ_cons, List.drop_zero]
  repeat' (first | apply And.intro | intro _)
  any_goals (first | kernel_rfl | (refine hK11 _ ?_; clear hK11) | omega | (simp_all <;> omega))
  have hjd : IntKind.i64.wrap ((j : Int) - 1 - 1) = (j : Int) - 1 - 1 := w64 (by omega)
  refine swp_region ty_ok ?_
  try simp (maxSteps := 1000000) [hjd]
  repeat' apply And.intro
  any_goals (try omega)
  refine hL7 _ ⟨[(1, .int .i64 (p : Nat)), (2, .ptr 0 0 0 1), (5, .sl 1 0 (bDim i) (bDim i)), (6, .int .i64 ((((j - 1) : Nat) : Int) - 1))], [(0, some ⟨.rows 4 [[.int .i64 (bDim i : Nat), .int .i64 (bLow i), .int .i64 (bHigh i), .int .i64 (bPlain i : Nat)]], true, 115⟩), (1, some ⟨.ints .i64 (List.replicate (j - 1) 0 ++ (bLow i + r) :: tl), false, 3⟩)], 2⟩ _ ?_ ⟨(j - 1), (p), ((bLow i + r) :: tl), by (simp only [List.length_cons]; omega), by omega, by (rw [← hv]; obtain ⟨k, rfl⟩ : ∃ k, j = k + 1 := ⟨j - 1, by omega⟩; rw [bDg, hr, hp, Nat.add_sub_cancel, List.append_assoc]; rfl), rfl, rfl⟩ ⟨by (simp [getT, PV.lo, lo1]; omega), by simp [getH, Blk.lo, Cells.lo, lo1], rfl, by omega⟩
  omega
 ·clear hC10
  try simp at hc10
  refine swp_exit ?_
  simp [thn, inBlk]
  refine hK5 _ ?_; clear hK5
  refine swp_seq fun K17 hK17 => ?_
  refine swp_region ty_ok ?_
  try simp (maxSteps := 1000000)
  repeat' (first | apply And.intro | intro _)
  any_goals (first | (refine hK17 _ ?_; clear hK17) | omega | (simp_all <;> omega))
  refine swp_ret ?_
  simp [fnPost, Try.results98, resP, tupOf]
  have hj : j = 0 := (by omega)
  subst hj
  have hv2 : tl = bVal i e := (by simpa [bDg] using hv)
  exact ⟨by omega, hv2.symm⟩

set_option maxHeartbeats 8000000 in
theorem sizes_ok (i : Nat) (h1 : 1 ≤ i) (h2 : i ≤ 12)  : PCall Try.prog 71 [.agg [.int .i64 (bDim i : Nat), .int .i64 (bLow i), .int .i64 (bHigh i), .int .i64 (bPlain i : Nat)]] (.agg ((bSzs i).map (PV.int .u8))) := by
 have hB := bk_ok h1 h2
 have hdim := hB.dim
 have hlow := hB.low
 have hhigh := hB.high
 have hwide := hB.wide
 have hmany := hB.many
 have hplain := hB.plain
 refine pcall_body ty_ok Try.func71 rfl (by rfl) (by simp) ?_
 rw [Try.ntmps71]
 refine swp_seq fun K1 hK1 => ?_
 refine swp_region ty_ok ?_
 try simp (maxSteps := 1000000)
 repeat' (first | apply And.intro | intro _)
 any_goals (first | (refine hK1 _ ?_; clear hK1) | omega | (simp_all <;> omega))
 refine swp_seq fun K2 hK2 => ?_
 refine swp_region ty_ok ?_
 try simp (maxSteps := 1000000)
 repeat' (first | apply And.intro | intro _)
 any_goals (first | (refine hK2 _ ?_; clear hK2) | omega | (simp_all <;> omega))
 refine swp_seq fun K3 hK3 => ?_
 refine swp_seq fun K4 hK4 => ?_
 refine swp_region ty_ok ?_
 try simp (maxSteps := 1000000)
 repeat' (first | apply And.intro | intro _)
 any_goals (first | (refine hK4 _ ?_; clear hK4) | omega | (simp_all <;> omega))
 refine swp_block ?_
 refine swp_loop 3 (fun m_ s_ => ∃ (j : Nat), (j ≤ bDim i) ∧ s_ = ⟨[(1, .ptr 0 0 0 1), (2, .ptr 1 0 0 1), (3, .ptr 2 0 0 1), (11, .int .i64 (bDim i : Nat)), (12, .int .i64 (j : Nat))], [(0, some ⟨.rows 4 [[.int .i64 (bDim i : Nat), .int .i64 (bLow i), .int .i64 (bHigh i), .int .i64 (bPlain i : Nat)]], true, 115⟩), (1, some ⟨.rows 289 [(outL i 0).map (PV.int .u8)], true, 118⟩), (2, some ⟨.rows 4 [(VI i j).map (PV.int .i64)], true, 146⟩)], 3⟩ ∧ m_ = bDim i - j) _ ⟨[(1, .ptr 0 0 0 1), (2, .ptr 1 0 0 1), (3, .ptr 2 0 0 1), (11, .int .i64 (bDim i : Nat)), (12, .int .i64 (0 : Nat))], [(0, some ⟨.rows 4 [[.int .i64 (bDim i : Nat), .int .i64 (bLow i), .int .i64 (bHigh i), .int .i64 (bPlain i : Nat)]], true, 115⟩), (1, some ⟨.rows 289 [(outL i 0).map (PV.int .u8)], true, 118⟩), (2, some ⟨.rows 4 [(VI i 0).map (PV.int .i64)], true, 146⟩)], 3⟩ ⟨by simp [getT, PV.lo, lo1], by simp [getH, Blk.lo, Cells.lo, lo1, outL_zero, List.map_replicate, VI, List.replicate_succ], rfl, by omega⟩ ⟨(0), by (first | omega | (simp_all <;> omega)), rfl, rfl⟩ ?_
 rintro m_ s_ ⟨j, hL5_0, rfl, rfl⟩ KL5 hL5
 have hjw := wnext (i := j) (by omega)
 refine swp_seq fun K6 hK6 => ?_
 refine swp_region ty_ok ?_
 try simp (maxSteps := 1000000)
 repeat' (first | apply And.intro | intro _)
 any_goals (first | (refine hK6 _ ?_; clear hK6) | omega | (simp_all <;> omega))
 refine swp_seq fun K7 hK7 => ?_
 refine swp_if fun C8 hC8 => ?_
 try simp (maxSteps := 1000000)
 refine hC8 _ (fun hc8 => ?_) (fun hc8 => ?_)
 ·clear hC8
  try simp at hc8
  refine swp_skip ?_
  try simp only [thn, inBlk]
  refine hK7 _ ?_; clear hK7
  refine swp_seq fun K9 hK9 => ?_
  refine swp_block ?_
  refine swp_seq fun K10 hK10 => ?_
  refine swp_region ty_ok ?_
  try simp (maxSteps := 1000000)
  repeat' (first | apply And.intro | intro _)
  any_goals (first | (refine hK10 _ ?_; clear hK10) | omega | (simp_all <;> omega))
  have hjd : j < bDim i := (by have h := hc8; omega)
  have hvil := VI_len (i := i) (j := j) (by omega)
  have hset := set_map (PV.int .i64) (VI i j) j (bLow i) (by omega)
  rw [VI_set (by omega)] at hset
  refine swp_region ty_ok ?_
  try simp (maxSteps := 1000000) [hset, hvil]
  repeat' (first | apply And.intro | intro _)
  any_goals (first | (refine hK9 _ ?_; clear hK9) | omega | (simp_all <;> omega))
  refine swp_region ty_ok ?_
  try simp (maxSteps := 1000000)
  repeat' apply And.intro
  any_goals (try omega)
  refine hL5 _ ⟨[(1, .ptr 0 0 0 1), (2, .ptr 1 0 0 1), (3, .ptr 2 0 0 1), (11, .int .i64 (bDim i : Nat)), (12, .int .i64 ((j + 1) : Nat))], [(0, some ⟨.rows 4 [[.int .i64 (bDim i : Nat), .int .i64 (bLow i), .int .i64 (bHigh i), .int .i64 (bPlain i : Nat)]], true, 115⟩), (1, some ⟨.rows 289 [(outL i 0).map (PV.int .u8)], true, 118⟩), (2, some ⟨.rows 4 [(VI i (j + 1)).map (PV.int .i64)], true, 146⟩)], 3⟩ _ ?_ ⟨(j + 1), by (first | omega | (simp_all <;> omega)), rfl, rfl⟩ ⟨by simp [getT, PV.lo, lo1, hjw], by simp [getH, Blk.lo, Cells.lo, lo1], rfl, by omega⟩
  omega
 ·clear hC8
  try simp at hc8
  refine swp_exit ?_
  simp [thn, inBlk]
  refine hK3 _ ?_; clear hK3
  refine swp_seq fun K11 hK11 => ?_
  refine swp_seq fun K12 hK12 => ?_
  refine swp_region ty_ok ?_
  refine runs_cut 1 fun R13 hR13 => ?_
  try simp (maxSteps := 1000000) [List.take_succ_cons, List.take_zero, List.drop_succ_cons, List.drop_zero]
  repeat' (first | apply And.intro | intro _)
  any_goals (first | (refine hR13 _ ?_; clear hR13) | omega | (simp_all <;> omega))
  refine runs_cut 1 fun R14 hR14 => ?_
  try simp (maxSteps := 1000000) [List.take_succ_cons, List.take_zero, List.drop_succ_cons, List.drop_zero]
  refine .inl ⟨_, many_ok i h1 h2, ?_⟩
  try simp (maxSteps := 1000000)
  repeat' (first | apply And.intro | intro _)
  any_goals (first | (refine hR14 _ ?_; clear hR14) | omega | (simp_all <;> omega))
  try simp (maxSteps := 1000000) [List.take_succ_cons, List.take_zero, List.drop_succ_cons, List.drop_zero]
  repeat' (first | apply And.intro | intro _)
  any_goals (first | (refine hK12 _ ?_; clear hK12) | omega | (simp_all <;> omega))
  refine swp_block ?_
  have hjD : j = bDim i := (by omega)
  subst hjD
  refine swp_loop 3 (fun m_ s_ => ∃ (n : Nat), (n ≤ bMany i) ∧ s_ = ⟨[(1, .ptr 0 0 0 1), (2, .ptr 1 0 0 1), (3, .ptr 2 0 0 1), (21, .int .i64 (bMany i : Nat)), (22, .int .i64 (n : Nat))], [(0, some ⟨.rows 4 [[.int .i64 (bDim i : Nat), .int .i64 (bLow i), .int .i64 (bHigh i), .int .i64 (bPlain i : Nat)]], true, 115⟩), (1, some ⟨.rows 289 [(outL i n).map (PV.int .u8)], true, 118⟩), (2, some ⟨.rows 4 [(VO i (bDim i) n).map (PV.int .i64)], true, 146⟩)], 3⟩ ∧ m_ = bMany i - n) _ ⟨[(1, .ptr 0 0 0 1), (2, .ptr 1 0 0 1), (3, .ptr 2 0 0 1), (21, .int .i64 (bMany i : Nat)), (22, .int .i64 (0 : Nat))], [(0, some ⟨.rows 4 [[.int .i64 (bDim i : Nat), .int .i64 (bLow i), .int .i64 (bHigh i), .int .i64 (bPlain i : Nat)]], true, 115⟩), (1, some ⟨.rows 289 [(outL i 0).map (PV.int .u8)], true, 118⟩), (2, some ⟨.rows 4 [(VO i (bDim i) 0).map (PV.int .i64)], true, 146⟩)], 3⟩ ⟨by simp [getT, PV.lo, lo1], by simp [getH, Blk.lo, Cells.lo, lo1, VI_end hB], rfl, by omega⟩ ⟨(0), by (first | omega | (simp_all <;> omega)), rfl, rfl⟩ ?_
  rintro m_ s_ ⟨n, hL15_0, rfl, rfl⟩ KL15 hL15
  have hnw := wnext (i := n) (by omega)
  refine swp_seq fun K16 hK16 => ?_
  refine swp_region ty_ok ?_
  try simp (maxSteps := 1000000)
  repeat' (first | apply And.intro | intro _)
  any_goals (first | (refine hK16 _ ?_; clear hK16) | omega | (simp_all <;> omega))
  refine swp_seq fun K17 hK17 => ?_
  refine swp_if fun C18 hC18 => ?_
  try simp (maxSteps := 1000000)
  refine hC18 _ (fun hc18 => ?_) (fun hc18 => ?_)
  ·clear hC18
   try simp at hc18
   refine swp_skip ?_
   try simp only [thn, inBlk]
   refine hK17 _ ?_; clear hK17
   refine swp_seq fun K19 hK19 => ?_
   refine swp_block ?_
   refine swp_seq fun K20 hK20 => ?_
   refine swp_region ty_ok ?_
   try simp (maxSteps := 1000000)
   repeat' (first | apply And.intro | intro _)
   any_goals (first | (refine hK20 _ ?_; clear hK20) | omega | (simp_all <;> omega))
   refine swp_seq fun K21 hK21 => ?_
   refine swp_region ty_ok ?_
   try simp (maxSteps := 1000000)
   repeat' (first | apply And.intro | intro _)
   any_goals (first | (refine hK21 _ ?_; clear hK21) | omega | (simp_all <;> omega))
   refine swp_seq fun K22 hK22 => ?_
   refine swp_seq fun K23 hK23 => ?_
   refine swp_region ty_ok ?_
   try simp (maxSteps := 1000000)
   repeat' (first | apply And.intro | intro _)
   any_goals (first | (refine hK23 _ ?_; clear hK23) | omega | (simp_all <;> omega))
   refine swp_block ?_
   refine swp_loop 3 (fun m_ s_ => ∃ (x : Nat), (x ≤ bDim i) ∧ s_ = ⟨[(1, .ptr 0 0 0 1), (2, .ptr 1 0 0 1), (3, .ptr 2 0 0 1), (21, .int .i64 (bMany i : Nat)), (22, .int .i64 (n : Nat)), (5, .int .i64 (n : Nat)), (27, .asl 2 0 (bDim i)), (28, .int .i64 (bDim i : Nat)), (29, .int .i64 (x : Nat)), (6, .int .i64 (absL ((bVal i n).take x) : Nat))], [(0, some ⟨.rows 4 [[.int .i64 (bDim i : Nat), .int .i64 (bLow i), .int .i64 (bHigh i), .int .i64 (bPlain i : Nat)]], true, 115⟩), (1, some ⟨.rows 289 [(outL i n).map (PV.int .u8)], true, 118⟩), (2, some ⟨.rows 4 [(VO i (bDim i) n).map (PV.int .i64)], true, 146⟩)], 3⟩ ∧ m_ = bDim i - x) _ ⟨[(1, .ptr 0 0 0 1), (2, .ptr 1 0 0 1), (3, .ptr 2 0 0 1), (21, .int .i64 (bMany i : Nat)), (22, .int .i64 (n : Nat)), (5, .int .i64 (n : Nat)), (27, .asl 2 0 (bDim i)), (28, .int .i64 (bDim i : Nat)), (29, .int .i64 (0 : Nat)), (6, .int .i64 (absL ((bVal i n).take 0) : Nat))], [(0, some ⟨.rows 4 [[.int .i64 (bDim i : Nat), .int .i64 (bLow i), .int .i64 (bHigh i), .int .i64 (bPlain i : Nat)]], true, 115⟩), (1, some ⟨.rows 289 [(outL i n).map (PV.int .u8)], true, 118⟩), (2, some ⟨.rows 4 [(VO i (bDim i) n).map (PV.int .i64)], true, 146⟩)], 3⟩ ⟨by simp [getT, PV.lo, lo1, absL_nil], by simp [getH, Blk.lo, Cells.lo, lo1], rfl, by omega⟩ ⟨(0), by (first | omega | (simp_all <;> omega)), rfl, rfl⟩ ?_
   rintro m_ s_ ⟨x, hL24_0, rfl, rfl⟩ KL24 hL24
   have hxw := wnext (i := x) (by omega)
   refine swp_seq fun K25 hK25 => ?_
   refine swp_region ty_ok ?_
   try simp (maxSteps := 1000000)
   repeat' (first | apply And.intro | intro _)
   any_goals (first | (refine hK25 _ ?_; clear hK25) | omega | (simp_all <;> omega))
   refine swp_seq fun K26 hK26 => ?_
   refine swp_if fun C27 hC27 => ?_
   try simp (maxSteps := 1000000)
   refine hC27 _ (fun hc27 => ?_) (fun hc27 => ?_)
   ·clear hC27
    try simp at hc27
    refine swp_skip ?_
    try simp only [thn, inBlk]
    refine hK26 _ ?_; clear hK26
    refine swp_seq fun K28 hK28 => ?_
    refine swp_block ?_
    refine swp_seq fun K29 hK29 => ?_
    have hxd : x < bDim i := (by have h := hc27; omega)
    have hvl : (VO i (bDim i) n).length = 4 := VO_len hB (Nat.le_refl _)
    have hvx := map_at (k := .i64) (l := VO i (bDim i) n) (j := x) (by omega)
    refine swp_region ty_ok ?_
    try simp (maxSteps := 1000000) [hvx, hvl]
    repeat' (first | apply And.intro | intro _)
    any_goals (first | (refine hK29 _ ?_; clear hK29) | omega | (simp_all <;> omega))
    obtain ⟨z, hz⟩ : ∃ z, (VO i (bDim i) n)[x]?.getD 0 = z := ⟨_, rfl⟩
    have hz2 : (bVal i n)[x]?.getD 0 = z := by rw [← hz, VO, List.getElem?_append_left (by rw [bDg_len]; exact hxd)]; rfl
    have hvb : bLow i ≤ z ∧ z ≤ bHigh i := by rw [← hz2, List.getElem?_eq_getElem (by unfold bVal; rw [bDg_len]; exact hxd)]; exact bDg_bd hB _ _ _ (List.getElem_mem _)
    have hneg : IntKind.i64.wrap (-z) = -z := w64 (by omega)
    have htk := absL_take (l := bVal i n) (x := x) (by unfold bVal; rw [bDg_len]; exact hxd)
    rw [hz2] at htk
    have hmx := max_abs z
    have hle1 := absL_le (bVal i n) x
    have hle2 : absL (bVal i n) ≤ 240 := bSz_bd hB n
    have hadd : IntKind.i64.wrap ((absL ((bVal i n).take x) : Nat) + (z.natAbs : Nat) : Int) = ((absL ((bVal i n).take (x + 1)) : Nat) : Int) := by rw [htk, w64 (by omega), Int.natCast_add]
    refine swp_region ty_ok ?_
    try simp (maxSteps := 1000000) [hz, hneg, hmx, hadd]
    repeat' (first | apply And.intro | intro _)
    any_goals (first | (refine hK28 _ ?_; clear hK28) | omega | (simp_all <;> omega))
    refine swp_region ty_ok ?_
    try simp (maxSteps := 1000000)
    repeat' apply And.intro
    any_goals (try omega)
    refine hL24 _ ⟨[(1, .ptr 0 0 0 1), (2, .ptr 1 0 0 1), (3, .ptr 2 0 0 1), (21, .int .i64 (bMany i : Nat)), (22, .int .i64 (n : Nat)), (5, .int .i64 (n : Nat)), (27, .asl 2 0 (bDim i)), (28, .int .i64 (bDim i : Nat)), (29, .int .i64 ((x + 1) : Nat)), (6, .int .i64 (absL ((bVal i n).take (x + 1)) : Nat))], [(0, some ⟨.rows 4 [[.int .i64 (bDim i : Nat), .int .i64 (bLow i), .int .i64 (bHigh i), .int .i64 (bPlain i : Nat)]], true, 115⟩), (1, some ⟨.rows 289 [(outL i n).map (PV.int .u8)], true, 118⟩), (2, some ⟨.rows 4 [(VO i (bDim i) n).map (PV.int .i64)], true, 146⟩)], 3⟩ _ ?_ ⟨(x + 1), by (first | omega | (simp_all <;> omega)), rfl, rfl⟩ ⟨by simp [getT, PV.lo, lo1, hxw], by simp [getH, Blk.lo, Cells.lo, lo1], rfl, by omega⟩
    omega
   ·clear hC27
    try simp at hc27
    refine swp_exit ?_
    simp [thn, inBlk]
    refine hK22 _ ?_; clear hK22
    refine swp_seq fun K30 hK30 => ?_
    have hx4 : (bVal i n).take x = bVal i n := List.take_of_length_le (by unfold bVal; rw [bDg_len]; omega)
    rw [hx4] at *
    have hsb : bSz i n ≤ 240 := bSz_bd hB n
    have hu8 : IntKind.u8.wrap ((absL (bVal i n) : Nat) : Int) = (bSz i n : Nat) := by show ((bSz i n : Nat) : Int) % 256 = _; omega
    have holn := outL_len (i := i) (n := n) (by omega)
    have hoset := set_map (PV.int .u8) (outL i n) n (bSz i n : Nat) (by omega)
    rw [outL_set (by omega)] at hoset
    refine swp_region ty_ok ?_
    try simp (maxSteps := 1000000) [hu8, hoset, holn]
    repeat' (first | apply And.intro | intro _)
    any_goals (first | (refine hK30 _ ?_; clear hK30) | omega | (simp_all <;> omega))
    refine swp_seq fun K31 hK31 => ?_
    have hd1 : IntKind.i64.wrap ((bDim i : Nat) - 1 : Int) = (bDim i : Nat) - 1 := w64 (by omega)
    refine swp_region ty_ok ?_
    try simp (maxSteps := 1000000) [hd1]
    repeat' (first | apply And.intro | intro _)
    any_goals (first | (refine hK31 _ ?_; clear hK31) | omega | (simp_all <;> omega))
    refine swp_block ?_
    refine swp_loop 3 (fun m_ s_ => ∃ (j : Nat) (q : Nat), (j ≤ bDim i) ∧ (bDg i j (q + 1) ++ List.replicate (bDim i - j) (bLow i) = bDg i (bDim i) (n + 1)) ∧ s_ = ⟨[(1, .ptr 0 0 0 1), (2, .ptr 1 0 0 1), (3, .ptr 2 0 0 1), (21, .int .i64 (bMany i : Nat)), (22, .int .i64 (n : Nat)), (9, .int .i64 (((j : Nat) : Int) - 1))], [(0, some ⟨.rows 4 [[.int .i64 (bDim i : Nat), .int .i64 (bLow i), .int .i64 (bHigh i), .int .i64 (bPlain i : Nat)]], true, 115⟩), (1, some ⟨.rows 289 [(outL i (n + 1)).map (PV.int .u8)], true, 118⟩), (2, some ⟨.rows 4 [(VO i j q).map (PV.int .i64)], true, 146⟩)], 3⟩ ∧ m_ = j + 1) _ ⟨[(1, .ptr 0 0 0 1), (2, .ptr 1 0 0 1), (3, .ptr 2 0 0 1), (21, .int .i64 (bMany i : Nat)), (22, .int .i64 (n : Nat)), (9, .int .i64 ((((bDim i) : Nat) : Int) - 1))], [(0, some ⟨.rows 4 [[.int .i64 (bDim i : Nat), .int .i64 (bLow i), .int .i64 (bHigh i), .int .i64 (bPlain i : Nat)]], true, 115⟩), (1, some ⟨.rows 289 [(outL i (n + 1)).map (PV.int .u8)], true, 118⟩), (2, some ⟨.rows 4 [(VO i (bDim i) n).map (PV.int .i64)], true, 146⟩)], 3⟩ ⟨by simp [getT, PV.lo, lo1], by simp [getH, Blk.lo, Cells.lo, lo1], rfl, by omega⟩ ⟨(bDim i), (n), by exact Nat.le_refl _, by (rw [Nat.sub_self]; simp), rfl, rfl⟩ ?_
    rintro m_ s_ ⟨j, q, hL32_0, hL32_1, rfl, rfl⟩ KL32 hL32
    have hI := (by assumption : bDg i j (q + 1) ++ List.replicate (bDim i - j) (bLow i) = bDg i (bDim i) (n + 1))
    refine swp_seq fun K33 hK33 => ?_
    refine swp_seq fun K34 hK34 => ?_
    refine swp_region ty_ok ?_
    try simp (maxSteps := 1000000)
    repeat' (first | apply And.intro | intro _)
    any_goals (first | (refine hK34 _ ?_; clear hK34) | omega | (simp_all <;> omega))
    refine swp_if fun C35 hC35 => ?_
    try simp (maxSteps := 1000000)
    refine hC35 _ (fun hc35 => ?_) (fun hc35 => ?_)
    ·clear hC35
     try simp at hc35
     refine swp_skip ?_
     try simp only [thn, inBlk]
     refine hK33 _ ?_; clear hK33
     refine swp_seq fun K36 hK36 => ?_
     refine swp_block ?_
     refine swp_seq fun K37 hK37 => ?_
     refine swp_seq fun K38 hK38 => ?_
     have hj1 : 1 ≤ j := (by have h := hc35; omega)
     have hvl : (VO i j q).length = 4 := VO_len hB (by omega)
     have hvx := map_at (k := .i64) (l := VO i j q) (j := j - 1) (by omega)
     rw [VO_at hj1] at hvx
     obtain ⟨r, hr⟩ : ∃ r, q % bWide i = r := ⟨_, rfl⟩
     have hrw : r < bWide i := by rw [← hr]; exact Nat.mod_lt _ (by omega)
     rw [hr] at hvx
     have hinc : IntKind.i64.wrap (bLow i + r + 1) = bLow i + r + 1 := w64 (by omega)
     have hvx2 : ((List.map (PV.int .i64) (VO i j q)).set (j - 1) (PV.int .i64 (bLow i + r + 1)))[j - 1]?.getD .any = PV.int .i64 (bLow i + r + 1) := by rw [List.getElem?_set_self (by rw [List.length_map]; omega)]; rfl
     have hset := set_map (PV.int .i64) (VO i j q) (j - 1) (bLow i + r + 1) (by omega)
     have hset2 := set_map (PV.int .i64) (VO i j q) (j - 1) (bLow i) (by omega)
     rw [VO_low hj1 (by omega)] at hset2
     have hset3 : List.take (j - 1) ((List.map (PV.int .i64) (VO i j q)).set (j - 1) (PV.int .i64 (bLow i + r + 1))) ++ PV.int .i64 (bLow i) :: List.drop (j - 1 + 1) ((List.map (PV.int .i64) (VO i j q)).set (j - 1) (PV.int .i64 (bLow i + r + 1))) = List.map (PV.int .i64) (VO i (j - 1) (q / bWide i)) := by rw [List.take_set_of_le (Nat.le_refl _), List.drop_set_of_lt (by omega)]; exact hset2
     refine swp_region ty_ok ?_
     try simp (maxSteps := 1000000) [tnp, hvx, hinc, hvl, hset]
     repeat' (first | apply And.intro | intro _)
     any_goals (first | (refine hK38 _ ?_; clear hK38) | omega | (simp_all <;> omega))
     refine swp_seq fun K39 hK39 => ?_
     refine swp_draw ty_ok mixed (ms := [0, 1, 3, 0, 8, 31]) (by kernel_rfl) ?_
     try simp (maxSteps := 1000000) [tnp, hvx2, hvl]
     repeat' (first | apply And.intro | intro _)
     any_goals (first | kernel_rfl | (refine hK39 _ ?_; clear hK39) | omega | (simp_all <;> omega))
     refine swp_if fun C41 hC41 => ?_
     try simp (maxSteps := 1000000) [tnp, hvx2, hvl]
     refine hC41 _ (fun hc41 => ?_) (fun hc41 => ?_)
     ·clear hC41
      try simp at hc41
      refine swp_exit ?_
      simp [thn, inBlk]
      refine hK19 _ ?_; clear hK19
      first | (have hj0 : j = 0 := (by omega); subst hj0; have hvn := VO_end hI) | (have hvn := VO_brk hB hj1 (by omega) hI (by rw [hr]; have h := hc41; omega); rw [hr] at hvn; have hvn := congrArg (List.map (PV.int .i64)) hvn; rw [List.map_set] at hvn)
      refine swp_region ty_ok ?_
      try simp (maxSteps := 1000000)
      repeat' apply And.intro
      any_goals (try omega)
      refine hL15 _ ⟨[(1, .ptr 0 0 0 1), (2, .ptr 1 0 0 1), (3, .ptr 2 0 0 1), (21, .int .i64 (bMany i : Nat)), (22, .int .i64 ((n + 1) : Nat))], [(0, some ⟨.rows 4 [[.int .i64 (bDim i : Nat), .int .i64 (bLow i), .int .i64 (bHigh i), .int .i64 (bPlain i : Nat)]], true, 115⟩), (1, some ⟨.rows 289 [(outL i (n + 1)).map (PV.int .u8)], true, 118⟩), (2, some ⟨.rows 4 [(VO i (bDim i) (n + 1)).map (PV.int .i64)], true, 146⟩)], 3⟩ _ ?_ ⟨(n + 1), by (first | omega | (simp_all <;> omega)), rfl, rfl⟩ ⟨by simp [getT, PV.lo, lo1, hnw], by simp [getH, Blk.lo, Cells.lo, lo1, hvn], rfl, by omega⟩
      omega
     ·clear hC41
      try simp at hc41
      refine swp_skip ?_
      try simp only [thn, inBlk]
      refine hK37 _ ?_; clear hK37
      refine swp_region ty_ok ?_
      try simp (maxSteps := 1000000) [tnp, hset2, hset3, hvl]
      repeat' (first | apply And.intro | intro _)
      any_goals (first | (refine hK36 _ ?_; clear hK36) | omega | (simp_all <;> omega))
      have hjd : IntKind.i64.wrap ((j : Int) - 1 - 1) = (j : Int) - 1 - 1 := w64 (by omega)
      refine swp_region ty_ok ?_
      try simp (maxSteps := 1000000) [hjd]
      repeat' apply And.intro
      any_goals (try omega)
      refine hL32 _ ⟨[(1, .ptr 0 0 0 1), (2, .ptr 1 0 0 1), (3, .ptr 2 0 0 1), (21, .int .i64 (bMany i : Nat)), (22, .int .i64 (n : Nat)), (9, .int .i64 ((((j - 1) : Nat) : Int) - 1))], [(0, some ⟨.rows 4 [[.int .i64 (bDim i : Nat), .int .i64 (bLow i), .int .i64 (bHigh i), .int .i64 (bPlain i : Nat)]], true, 115⟩), (1, some ⟨.rows 289 [(outL i (n + 1)).map (PV.int .u8)], true, 118⟩), (2, some ⟨.rows 4 [(VO i (j - 1) (q / bWide i)).map (PV.int .i64)], true, 146⟩)], 3⟩ _ ?_ ⟨(j - 1), (q / bWide i), by omega, by exact VO_nxt hB hj1 (by omega) hI (by rw [hr]; have h := hc41; omega), rfl, rfl⟩ ⟨by (simp [getT, PV.lo, lo1]; omega), by simp [getH, Blk.lo, Cells.lo, lo1], rfl, by omega⟩
      omega
    ·clear hC35
     try simp at hc35
     refine swp_exit ?_
     simp [thn, inBlk]
     refine hK19 _ ?_; clear hK19
     first | (have hj0 : j = 0 := (by omega); subst hj0; have hvn := VO_end hI) | (have hvn := VO_brk hB hj1 (by omega) hI (by rw [hr]; have h := hc35; omega); rw [hr] at hvn; have hvn := congrArg (List.map (PV.int .i64)) hvn; rw [List.map_set] at hvn)
     refine swp_region ty_ok ?_
     try simp (maxSteps := 1000000)
     repeat' apply And.intro
     any_goals (try omega)
     refine hL15 _ ⟨[(1, .ptr 0 0 0 1), (2, .ptr 1 0 0 1), (3, .ptr 2 0 0 1), (21, .int .i64 (bMany i : Nat)), (22, .int .i64 ((n + 1) : Nat))], [(0, some ⟨.rows 4 [[.int .i64 (bDim i : Nat), .int .i64 (bLow i), .int .i64 (bHigh i), .int .i64 (bPlain i : Nat)]], true, 115⟩), (1, some ⟨.rows 289 [(outL i (n + 1)).map (PV.int .u8)], true, 118⟩), (2, some ⟨.rows 4 [(VO i (bDim i) (n + 1)).map (PV.int .i64)], true, 146⟩)], 3⟩ _ ?_ ⟨(n + 1), by (first | omega | (simp_all <;> omega)), rfl, rfl⟩ ⟨by simp [getT, PV.lo, lo1, hnw], by simp [getH, Blk.lo, Cells.lo, lo1, hvn], rfl, by omega⟩
     omega
  ·clear hC18
   try simp at hc18
   refine swp_exit ?_
   simp [thn, inBlk]
   refine hK11 _ ?_; clear hK11
   refine swp_ret ?_
   simp [fnPost, Try.results71, resP, tupOf]
   have hn : n = bMany i := (by omega)
   subst hn
   rw [outL_end]
   have hl := bSzs_len hB
   have ht : List.take 289 (List.map (PV.int .u8) (bSzs i)) = List.map (PV.int .u8) (bSzs i) := List.take_of_length_le (by simp; omega)
   rw [ht, frzL_self _ (by simp [self1])]
   exact ⟨by omega, rfl⟩

end Go.Proofs.Ytgheplondkoedaa

