import Derived.Test.YtgheplondkoedaaWf
import Derived.Test.YtgheplondkoedaaTyh
import Derived.Test.YtgheplondkoedaaBkq
import Derived.Test.YtgheplondkoedaaHsrt
import Derived.Test.YtgheplondkoedaaHbk
import Derived.Test.YtgheplondkoedaaHbk2
import Derived.Test.YtgheplondkoedaaHbk3
import Derived.Test.YtgheplondkoedaaHbits
import Derived.Test.YtgheplondkoedaaHrd
import Derived.Test.YtgheplondkoedaaHrdq
import Derived.Test.YtgheplondkoedaaHbits2
import Derived.Test.YtgheplondkoedaaHbk4
namespace Go.Proofs.Ytgheplondkoedaa
set_option linter.unusedVariables false
set_option linter.unusedSimpArgs false
set_option maxRecDepth 10000
open Go Go.Pv

theorem take_next {xs ys : List Int} {i : Nat} (h1 : i < xs.length) (h2 : i < ys.length) (h : xs.take i = ys.take i) (he : xs[i]?.getD 0 = ys[i]?.getD 0) : xs.take (i + 1) = ys.take (i + 1) := by
 rw [List.take_succ_eq_append_getElem h1, List.take_succ_eq_append_getElem h2, h]
 rw [List.getElem?_eq_getElem h1, List.getElem?_eq_getElem h2] at he
 simp at he
 rw [he]
theorem dimF {i : Nat} (h2 : i ≤ 12) (h1 : 1 ≤ i) : (i < 5 → bDim i = 4) ∧ (i = 12 → bDim i = 1) ∧ (¬ i < 5 → ¬ i = 12 → bDim i = 2) := by
 have : ∀ j : Fin 13, 1 ≤ j.val → (j.val < 5 → bDim j.val = 4) ∧ (j.val = 12 → bDim j.val = 1) ∧ (¬ j.val < 5 → ¬ j.val = 12 → bDim j.val = 2) := by decide
 exact this ⟨i, by omega⟩ h1
theorem lowF (i : Nat) : ([0, -1, -1, 0, 0, -4, -4, 0, 0, 0, 0, 0, -60] : List Int)[i]?.getD 0 = bLow i := rfl
theorem highF (i : Nat) : ([0, 1, 1, 2, 2, 4, 4, 7, 7, 12, 12, 16, 60] : List Int)[i]?.getD 0 = bHigh i := rfl
theorem plainF8 {i : Nat} (h2 : i ≤ 12) : ([0, 0, 1, 0, 1, 0, 1, 1, 2, 1, 2, 2, 0] : List Int)[i]?.getD 0 = (bPlain i : Nat) := by
 have : ∀ j : Fin 13, ([0, 0, 1, 0, 1, 0, 1, 1, 2, 1, 2, 2, 0] : List Int)[j.val]?.getD 0 = (bPlain j.val : Nat) := by decide
 exact this ⟨i, by omega⟩
theorem bDg_step {i k q : Nat} (hk : 0 < k) : bDg i k q = bDg i (k - 1) (q / bWide i) ++ [bLow i + (q % bWide i : Nat)] := by
 obtain ⟨k, rfl⟩ : ∃ j, k = j + 1 := ⟨k - 1, by omega⟩
 rfl
def eI (es : List Nat) : List Int := es.map Int.ofNat
theorem eI_snoc (es : List Nat) (t : Nat) : eI es ++ [(t : Int)] = eI (es ++ [t]) := by simp [eI]
theorem eI_len (es : List Nat) : (eI es).length = es.length := by simp [eI]
def rkL (N : Nat) (es : List Nat) : List Int := rkP N es es.length
theorem rkP_app (N : Nat) (es : List Nat) (t : Nat) : ∀ r, r ≤ es.length → rkP N (es ++ [t]) r = rkP N es r
 | 0, _ => rfl
 | r + 1, h => by rw [← rkP_set, ← rkP_set, rkP_app N es t r (by omega), List.getElem?_append_left (by omega)]
theorem rkL_snoc (N : Nat) (es : List Nat) (t : Nat) : (rkL N es).set t (es.length : Int) = rkL N (es ++ [t]) := by
 unfold rkL
 rw [List.length_append]
 show _ = rkP N (es ++ [t]) (es.length + 1)
 rw [← rkP_set, rkP_app N es t _ (Nat.le_refl _)]
 simp
theorem rkL_len (N : Nat) (es : List Nat) : (rkL N es).length = N := rkP_len _
def bPart (i s t : Nat) : List Nat := bUpto i s ++ bAt i s t
theorem bPart_zero (i s : Nat) : bPart i s 0 = bUpto i s := by simp [bPart, bAt]
theorem bPart_end (i s : Nat) : bPart i s (bMany i) = bUpto i (s + 1) := by
 unfold bPart bUpto
 rw [List.range_succ, List.flatMap_append]
 simp
theorem bPart_yes {i s t : Nat} (h : bSz i t = s) : bPart i s (t + 1) = bPart i s t ++ [t] := by
 unfold bPart bAt
 rw [List.range_succ, List.filter_append]
 simp [h]
theorem bPart_no {i s t : Nat} (h : ¬ bSz i t = s) : bPart i s (t + 1) = bPart i s t := by
 unfold bPart bAt
 rw [List.range_succ, List.filter_append]
 simp [h]
def szL (i n : Nat) : List Int := (List.range n).map (fun e => (bSz i e : Int)) ++ List.replicate (bMany i - n) 0
theorem szL_len {i n : Nat} (h : n ≤ bMany i) : (szL i n).length = bMany i := by simp [szL]; omega
theorem szL_set {i n : Nat} (h : n < bMany i) : (szL i n).set n (bSz i n) = szL i (n + 1) := by
 unfold szL
 rw [List.set_append_right _ _ (by simp), List.range_succ, List.map_append, List.length_map, List.length_range, Nat.sub_self, show bMany i - n = (bMany i - (n + 1)) + 1 by omega, List.replicate_succ]
 simp
theorem szL_zero (i : Nat) : szL i 0 = List.replicate (bMany i) 0 := rfl
theorem szL_at {i t : Nat} (h : t < bMany i) : (szL i (bMany i))[t]?.getD 0 = bSz i t := by
 unfold szL
 rw [List.getElem?_append_left (by simpa using h), List.getElem?_map, List.getElem?_range h]
 rfl
theorem topF {i : Nat} (h2 : i ≤ 12) : bTop i ≤ 61 := by
 have : ∀ j : Fin 13, bTop j.val ≤ 61 := by decide
 exact this ⟨i, by omega⟩
theorem bUpto_bd {i : Nat} (hm : bMany i ≤ 289) : ∀ s, (bUpto i s).length ≤ s * 289
 | 0 => by simp [bUpto]
 | s + 1 => by
  rw [← bPart_end, bPart, List.length_append]
  have h1 := bUpto_bd hm s
  have h2 : (bAt i s (bMany i)).length ≤ bMany i := by
   have := List.length_filter_le (fun e => bSz i e == s) (List.range (bMany i))
   simpa [bAt] using this
  omega
theorem bPart_bd {i s t : Nat} (hm : bMany i ≤ 289) (hs : s ≤ 61) (ht : t ≤ 289) : (bPart i s t).length ≤ 20000 := by
 rw [bPart, List.length_append]
 have h1 := bUpto_bd hm s
 have h2 : (bAt i s t).length ≤ t := by
  have := List.length_filter_le (fun e => bSz i e == s) (List.range t)
  simpa [bAt] using this
 omega
theorem part_lt {i s : Nat} (h : BkE i) (hs : s ≤ bTop i) (hl : (bUpto i s).length < bMany i) : s < bTop i := by
 by_cases he : s = bTop i
 ·subst he
  rw [h.upto, h.el] at hl
  omega
 ·omega
theorem part_end {i s : Nat} (h : BkE i) (hs : s ≤ bTop i) (hl : ¬ (bUpto i s).length < bMany i) : bUpto i s = bEnt i := by
 by_cases he : s < bTop i
 ·exact absurd (h.more s he) hl
 ·rw [show s = bTop i by omega, h.upto]

attribute [local simp] runs gd step1 need evu un opnds opv ev cst cst1 cstL getT getH putT onL nxt argT cellsOf PV.one thn inBlk jmp fldP ldP ldC live Cells.len Cells.get Cells.w sug ldv bin eqF eq1 ops2 sh2 binv Tk.agg stC apC rdS apS cpC cpS mvL zp argsP idx fillP toInts chunks mkC ixS ixA oidx slP sl0 slA optL List.append mxF bltn frzA frz frzL frz1 pur1 Cells.pur PV.scal scal1 runD rdO PV.ids id1 zids ety Eff.on cnd minb and1b ifmax ifmin mxv sugI strv w0 w1 w2 wm1
theorem reedpiperef06_Ints_ok (xs ys : List Int) (hx : xs.length ≤ 140737488355328) : PCall Try.prog 23 [.ro (.ints .i64 xs), .ro (.ints .i64 ys)] (.bool (decide (xs = ys))) := by
 refine pcall_body ty_ok Try.func23 rfl (by rfl) (by simp) ?_
 rw [Try.ntmps23]
 refine swp_seq fun K1 hK1 => ?_
 refine swp_region ty_ok ?_
 try simp (maxSteps := 1000000)
 repeat' (first | apply And.intro | intro _)
 any_goals (first | (refine hK1 _ ?_; clear hK1) | (first | omega | (simp only [IntKind.wrap_i64] at *; omega) | (simp_all; done) | (simp_all; omega)))
 refine swp_seq fun K2 hK2 => ?_
 refine swp_seq fun K3 hK3 => ?_
 refine swp_region ty_ok ?_
 try simp (maxSteps := 1000000)
 repeat' (first | apply And.intro | intro _)
 any_goals (first | (refine hK3 _ ?_; clear hK3) | (first | omega | (simp only [IntKind.wrap_i64] at *; omega) | (simp_all; done) | (simp_all; omega)))
 refine swp_if fun C4 hC4 => ?_
 try simp (maxSteps := 1000000)
 refine hC4 _ (fun hc4 => ?_) (fun hc4 => ?_)
 ·clear hC4
  try simp at hc4
  refine swp_seq fun K5 hK5 => ?_
  refine swp_region ty_ok ?_
  try simp (maxSteps := 1000000)
  repeat' (first | apply And.intro | intro _)
  any_goals (first | (refine hK5 _ ?_; clear hK5) | (first | omega | (simp only [IntKind.wrap_i64] at *; omega) | (simp_all; done) | (simp_all; omega)))
  refine swp_ret ?_
  simp [fnPost, Try.results23, resP, tupOf]
  rintro rfl; omega
 ·clear hC4
  try simp at hc4
  refine swp_skip ?_
  try simp only [thn, inBlk]
  refine hK2 _ ?_; clear hK2
  refine swp_seq fun K6 hK6 => ?_
  refine swp_seq fun K7 hK7 => ?_
  refine swp_region ty_ok ?_
  try simp (maxSteps := 1000000)
  repeat' (first | apply And.intro | intro _)
  any_goals (first | (refine hK7 _ ?_; clear hK7) | (first | omega | (simp only [IntKind.wrap_i64] at *; omega) | (simp_all; done) | (simp_all; omega)))
  refine swp_block ?_
  refine swp_loop 0 (fun m_ s_ => ∃ (i : Nat), (i ≤ xs.length) ∧ (xs.length = ys.length) ∧ (xs.take i = ys.take i) ∧ s_ = ⟨[(0, .ro (.ints .i64 xs)), (1, .ro (.ints .i64 ys)), (5, .int .i64 (i : Nat))], [], 0⟩ ∧ m_ = xs.length - i) _ ⟨[(0, .ro (.ints .i64 xs)), (1, .ro (.ints .i64 ys)), (5, .int .i64 (0 : Nat))], [], 0⟩ ⟨by simp [getT, PV.lo, lo1], by simp [getH, Blk.lo, Cells.lo, lo1], rfl, by omega⟩ ⟨(0), by (first | omega | (simp only [IntKind.wrap_i64] at *; omega) | (simp_all; done) | (simp_all; omega)), by (first | omega | (simp only [IntKind.wrap_i64] at *; omega) | (simp_all; done) | (simp_all; omega)), by (first | omega | (simp only [IntKind.wrap_i64] at *; omega) | (simp_all; done) | (simp_all; omega)), rfl, rfl⟩ ?_
  rintro m_ s_ ⟨i, hL8_0, hL8_1, hL8_2, rfl, rfl⟩ KL8 hL8
  have hw : IntKind.i64.wrap ((i : Int) + 1) = (((i + 1 : Nat)) : Int) := by rw [IntKind.wrap_i64]; omega
  refine swp_seq fun K9 hK9 => ?_
  refine swp_seq fun K10 hK10 => ?_
  refine swp_region ty_ok ?_
  try simp (maxSteps := 1000000)
  repeat' (first | apply And.intro | intro _)
  any_goals (first | (refine hK10 _ ?_; clear hK10) | (first | omega | (simp only [IntKind.wrap_i64] at *; omega) | (simp_all; done) | (simp_all; omega)))
  refine swp_if fun C11 hC11 => ?_
  try simp (maxSteps := 1000000)
  refine hC11 _ (fun hc11 => ?_) (fun hc11 => ?_)
  ·clear hC11
   try simp at hc11
   refine swp_skip ?_
   try simp only [thn, inBlk]
   refine hK9 _ ?_; clear hK9
   refine swp_seq fun K12 hK12 => ?_
   refine swp_block ?_
   refine swp_seq fun K13 hK13 => ?_
   refine swp_draw ty_ok mixed (ms := [0, 0, 3, 7, 0, 0, 48, 112, 255]) (by kernel_rfl) ?_
   try simp (maxSteps := 1000000)
   repeat' (first | apply And.intro | intro _)
   any_goals (first | kernel_rfl | (refine hK13 _ ?_; clear hK13) | (first | omega | (simp only [IntKind.wrap_i64] at *; omega) | (simp_all; done) | (simp_all; omega)))
   refine swp_if fun C15 hC15 => ?_
   try simp (maxSteps := 1000000)
   refine hC15 _ (fun hc15 => ?_) (fun hc15 => ?_)
   ·clear hC15
    try simp at hc15
    refine swp_seq fun K16 hK16 => ?_
    refine swp_region ty_ok ?_
    try simp (maxSteps := 1000000)
    repeat' (first | apply And.intro | intro _)
    any_goals (first | (refine hK16 _ ?_; clear hK16) | (first | omega | (simp only [IntKind.wrap_i64] at *; omega) | (simp_all; done) | (simp_all; omega)))
    refine swp_ret ?_
    simp [fnPost, Try.results23, resP, tupOf]
    rintro rfl; simp_all
   ·clear hC15
    try simp at hc15
    refine swp_skip ?_
    try simp only [thn, inBlk]
    refine hK12 _ ?_; clear hK12
    refine swp_region ty_ok ?_
    try simp (maxSteps := 1000000)
    repeat' apply And.intro
    any_goals (try omega)
    refine hL8 _ ⟨[(0, .ro (.ints .i64 xs)), (1, .ro (.ints .i64 ys)), (5, .int .i64 ((i + 1) : Nat))], [], 0⟩ _ ?_ ⟨(i + 1), by omega, by omega, by exact take_next (by omega) (by omega) (by assumption) (by assumption), rfl, rfl⟩ ⟨by simp [getT, PV.lo, lo1, hw], by simp [getH, Blk.lo, Cells.lo, lo1], rfl, by omega⟩
    omega
  ·clear hC11
   try simp at hc11
   refine swp_exit ?_
   simp [thn, inBlk]
   refine hK6 _ ?_; clear hK6
   refine swp_seq fun K17 hK17 => ?_
   refine swp_region ty_ok ?_
   try simp (maxSteps := 1000000)
   repeat' (first | apply And.intro | intro _)
   any_goals (first | (refine hK17 _ ?_; clear hK17) | (first | omega | (simp only [IntKind.wrap_i64] at *; omega) | (simp_all; done) | (simp_all; omega)))
   refine swp_ret ?_
   simp [fnPost, Try.results23, resP, tupOf]
   have hh := (by assumption : List.take _ xs = _); rw [List.take_of_length_le (by omega), List.take_of_length_le (by omega)] at hh; exact hh

theorem dim_ok (i : Nat) (h1 : 1 ≤ i) (h2 : i ≤ 12)  : PCall Try.prog 52 [.int .i64 (i : Nat)] (.int .i64 (bDim i : Nat)) := by
 have hd := dimF h2 h1
 refine pcall_body ty_ok Try.func52 rfl (by rfl) (by simp) ?_
 rw [Try.ntmps52]
 refine swp_seq fun K1 hK1 => ?_
 refine swp_region ty_ok ?_
 try simp (maxSteps := 1000000)
 repeat' (first | apply And.intro | intro _)
 any_goals (first | (refine hK1 _ ?_; clear hK1) | (first | omega | (simp only [IntKind.wrap_i64] at *; omega) | (simp_all; done) | (simp_all; omega)))
 refine swp_seq fun K2 hK2 => ?_
 refine swp_seq fun K3 hK3 => ?_
 refine swp_region ty_ok ?_
 try simp (maxSteps := 1000000)
 repeat' (first | apply And.intro | intro _)
 any_goals (first | (refine hK3 _ ?_; clear hK3) | (first | omega | (simp only [IntKind.wrap_i64] at *; omega) | (simp_all; done) | (simp_all; omega)))
 refine swp_if fun C4 hC4 => ?_
 try simp (maxSteps := 1000000)
 refine hC4 _ (fun hc4 => ?_) (fun hc4 => ?_)
 ·clear hC4
  try simp at hc4
  refine swp_seq fun K5 hK5 => ?_
  refine swp_region ty_ok ?_
  try simp (maxSteps := 1000000)
  repeat' (first | apply And.intro | intro _)
  any_goals (first | (refine hK5 _ ?_; clear hK5) | (first | omega | (simp only [IntKind.wrap_i64] at *; omega) | (simp_all; done) | (simp_all; omega)))
  refine swp_ret ?_
  simp [fnPost, Try.results52, resP, tupOf]
  omega
 ·clear hC4
  try simp at hc4
  refine swp_skip ?_
  try simp only [thn, inBlk]
  refine hK2 _ ?_; clear hK2
  refine swp_seq fun K6 hK6 => ?_
  refine swp_seq fun K7 hK7 => ?_
  refine swp_region ty_ok ?_
  try simp (maxSteps := 1000000)
  repeat' (first | apply And.intro | intro _)
  any_goals (first | (refine hK7 _ ?_; clear hK7) | (first | omega | (simp only [IntKind.wrap_i64] at *; omega) | (simp_all; done) | (simp_all; omega)))
  refine swp_if fun C8 hC8 => ?_
  try simp (maxSteps := 1000000)
  refine hC8 _ (fun hc8 => ?_) (fun hc8 => ?_)
  ·clear hC8
   try simp at hc8
   refine swp_seq fun K9 hK9 => ?_
   refine swp_region ty_ok ?_
   try simp (maxSteps := 1000000)
   repeat' (first | apply And.intro | intro _)
   any_goals (first | (refine hK9 _ ?_; clear hK9) | (first | omega | (simp only [IntKind.wrap_i64] at *; omega) | (simp_all; done) | (simp_all; omega)))
   refine swp_ret ?_
   simp [fnPost, Try.results52, resP, tupOf]
   omega
  ·clear hC8
   try simp at hc8
   refine swp_skip ?_
   try simp only [thn, inBlk]
   refine hK6 _ ?_; clear hK6
   refine swp_seq fun K10 hK10 => ?_
   refine swp_region ty_ok ?_
   try simp (maxSteps := 1000000)
   repeat' (first | apply And.intro | intro _)
   any_goals (first | (refine hK10 _ ?_; clear hK10) | (first | omega | (simp only [IntKind.wrap_i64] at *; omega) | (simp_all; done) | (simp_all; omega)))
   refine swp_ret ?_
   simp [fnPost, Try.results52, resP, tupOf]
   omega

theorem low_ok (i : Nat) (h1 : 1 ≤ i) (h2 : i ≤ 12)  : PCall Try.prog 117 [.int .i64 (i : Nat)] (.int .i64 (bLow i)) := by
 refine pcall_body ty_ok Try.func117 rfl (by rfl) (by simp) ?_
 rw [Try.ntmps117]
 refine swp_seq fun K1 hK1 => ?_
 refine swp_region ty_ok ?_
 try simp (maxSteps := 1000000) [lowF]
 repeat' (first | apply And.intro | intro _)
 any_goals (first | (refine hK1 _ ?_; clear hK1) | (first | omega | (simp only [IntKind.wrap_i64] at *; omega) | (simp_all; done) | (simp_all; omega)))
 refine swp_seq fun K2 hK2 => ?_
 refine swp_region ty_ok ?_
 refine runs_cut 1 fun R3 hR3 => ?_
 try simp (maxSteps := 1000000) [lowF, List.take_succ_cons, List.take_zero, List.drop_succ_cons, List.drop_zero]
 repeat' (first | apply And.intro | intro _)
 any_goals (first | (refine Or.inl (hR3 _ ?_); clear hR3) | (first | omega | (simp only [IntKind.wrap_i64] at *; omega) | (simp_all; done) | (simp_all; omega)))
 try simp (maxSteps := 1000000) [lowF, List.take_succ_cons, List.take_zero, List.drop_succ_cons, List.drop_zero]
 repeat' (first | apply And.intro | intro _)
 any_goals (first | (refine hK2 _ ?_; clear hK2) | (first | omega | (simp only [IntKind.wrap_i64] at *; omega) | (simp_all; done) | (simp_all; omega)))
 refine swp_ret ?_
 simp [fnPost, Try.results117, resP, tupOf]

theorem high_ok (i : Nat) (h1 : 1 ≤ i) (h2 : i ≤ 12)  : PCall Try.prog 118 [.int .i64 (i : Nat)] (.int .i64 (bHigh i)) := by
 refine pcall_body ty_ok Try.func118 rfl (by rfl) (by simp) ?_
 rw [Try.ntmps118]
 refine swp_seq fun K1 hK1 => ?_
 refine swp_region ty_ok ?_
 try simp (maxSteps := 1000000) [highF]
 repeat' (first | apply And.intro | intro _)
 any_goals (first | (refine hK1 _ ?_; clear hK1) | (first | omega | (simp only [IntKind.wrap_i64] at *; omega) | (simp_all; done) | (simp_all; omega)))
 refine swp_seq fun K2 hK2 => ?_
 refine swp_region ty_ok ?_
 refine runs_cut 1 fun R3 hR3 => ?_
 try simp (maxSteps := 1000000) [highF, List.take_succ_cons, List.take_zero, List.drop_succ_cons, List.drop_zero]
 repeat' (first | apply And.intro | intro _)
 any_goals (first | (refine Or.inl (hR3 _ ?_); clear hR3) | (first | omega | (simp only [IntKind.wrap_i64] at *; omega) | (simp_all; done) | (simp_all; omega)))
 try simp (maxSteps := 1000000) [highF, List.take_succ_cons, List.take_zero, List.drop_succ_cons, List.drop_zero]
 repeat' (first | apply And.intro | intro _)
 any_goals (first | (refine hK2 _ ?_; clear hK2) | (first | omega | (simp only [IntKind.wrap_i64] at *; omega) | (simp_all; done) | (simp_all; omega)))
 refine swp_ret ?_
 simp [fnPost, Try.results118, resP, tupOf]

theorem plain_ok (i : Nat) (h1 : 1 ≤ i) (h2 : i ≤ 12)  : PCall Try.prog 122 [.int .i64 (i : Nat)] (.int .i64 (bPlain i : Nat)) := by
 refine pcall_body ty_ok Try.func122 rfl (by rfl) (by simp) ?_
 rw [Try.ntmps122]
 refine swp_seq fun K1 hK1 => ?_
 refine swp_region ty_ok ?_
 try simp (maxSteps := 1000000)
 repeat' (first | apply And.intro | intro _)
 any_goals (first | (refine hK1 _ ?_; clear hK1) | (first | omega | (simp only [IntKind.wrap_i64] at *; omega) | (simp_all; done) | (simp_all; omega)))
 refine swp_seq fun K2 hK2 => ?_
 refine swp_region ty_ok ?_
 refine runs_cut 1 fun R3 hR3 => ?_
 try simp (maxSteps := 1000000) [List.take_succ_cons, List.take_zero, List.drop_succ_cons, List.drop_zero]
 repeat' (first | apply And.intro | intro _)
 any_goals (first | (refine Or.inl (hR3 _ ?_); clear hR3) | (first | omega | (simp only [IntKind.wrap_i64] at *; omega) | (simp_all; done) | (simp_all; omega)))
 try simp (maxSteps := 1000000) [List.take_succ_cons, List.take_zero, List.drop_succ_cons, List.drop_zero]
 repeat' (first | apply And.intro | intro _)
 any_goals (first | (refine hK2 _ ?_; clear hK2) | (first | omega | (simp only [IntKind.wrap_i64] at *; omega) | (simp_all; done) | (simp_all; omega)))
 refine swp_ret ?_
 simp [fnPost, Try.results122, resP, tupOf]
 first | exact plainF8 h2 | exact (plainF8 h2).symm

theorem rmany_ok (i : Nat) (h1 : 1 ≤ i) (h2 : i ≤ 12)  : PCall Try.prog 123 [.int .i64 (i : Nat)] (.int .i64 (bMany i : Nat)) := by
 have hB := bk_ok h1 h2
 have hdim := hB.dim
 have hlow := hB.low
 have hhigh := hB.high
 have hwide := hB.wide
 have hmany := hB.many
 have hplain := hB.plain
 have hs : IntKind.i64.wrap (bHigh i - bLow i) = bHigh i - bLow i := w64 (by omega)
 have hs2 : IntKind.i64.wrap (bHigh i - bLow i + 1) = (bWide i : Nat) := by rw [w64 (by omega)]; omega
 refine pcall_body ty_ok Try.func123 rfl (by rfl) (by simp) ?_
 rw [Try.ntmps123]
 refine swp_seq fun K1 hK1 => ?_
 refine swp_region ty_ok ?_
 try simp (maxSteps := 1000000)
 repeat' (first | apply And.intro | intro _)
 any_goals (first | (refine hK1 _ ?_; clear hK1) | (first | omega | (simp only [IntKind.wrap_i64] at *; omega) | (simp_all; done) | (simp_all; omega)))
 refine swp_seq fun K2 hK2 => ?_
 refine swp_region ty_ok ?_
 try simp (maxSteps := 1000000)
 repeat' (first | apply And.intro | intro _)
 any_goals (first | (refine hK2 _ ?_; clear hK2) | (first | omega | (simp only [IntKind.wrap_i64] at *; omega) | (simp_all; done) | (simp_all; omega)))
 refine swp_seq fun K3 hK3 => ?_
 refine swp_seq fun K4 hK4 => ?_
 refine swp_region ty_ok ?_
 try simp (maxSteps := 1000000)
 repeat' (first | apply And.intro | intro _)
 any_goals (first | (refine hK4 _ ?_; clear hK4) | (first | omega | (simp only [IntKind.wrap_i64] at *; omega) | (simp_all; done) | (simp_all; omega)))
 refine swp_block ?_
 refine swp_loop 0 (fun m_ s_ => ∃ (j : Nat), (j ≤ bDim i) ∧ s_ = ⟨[(0, .int .i64 (i : Nat)), (4, .int .i64 (j : Nat)), (3, .int .i64 (bPow i j : Nat))], [], 0⟩ ∧ m_ = bDim i - j) _ ⟨[(0, .int .i64 (i : Nat)), (4, .int .i64 (0 : Nat)), (3, .int .i64 (bPow i 0 : Nat))], [], 0⟩ ⟨by simp [getT, PV.lo, lo1, bPow_zero], by simp [getH, Blk.lo, Cells.lo, lo1], rfl, by omega⟩ ⟨(0), by (first | omega | (simp only [IntKind.wrap_i64] at *; omega) | (simp_all; done) | (simp_all; omega)), rfl, rfl⟩ ?_
 rintro m_ s_ ⟨j, hL5_0, rfl, rfl⟩ KL5 hL5
 have hjw := wnext (i := j) (by omega)
 refine swp_seq fun K6 hK6 => ?_
 refine swp_seq fun K7 hK7 => ?_
 refine swp_region ty_ok ?_
 refine runs_cut 2 fun R8 hR8 => ?_
 try simp (maxSteps := 1000000) [List.take_succ_cons, List.take_zero, List.drop_succ_cons, List.drop_zero]
 repeat' (first | apply And.intro | intro _)
 any_goals (first | (refine hR8 _ ?_; clear hR8) | (first | omega | (simp only [IntKind.wrap_i64] at *; omega) | (simp_all; done) | (simp_all; omega)))
 refine runs_cut 1 fun R9 hR9 => ?_
 try simp (maxSteps := 1000000) [List.take_succ_cons, List.take_zero, List.drop_succ_cons, List.drop_zero]
 refine .inl ⟨_, dim_ok i h1 h2, ?_⟩
 try simp (maxSteps := 1000000)
 repeat' (first | apply And.intro | intro _)
 any_goals (first | (refine hR9 _ ?_; clear hR9) | (first | omega | (simp only [IntKind.wrap_i64] at *; omega) | (simp_all; done) | (simp_all; omega)))
 try simp (maxSteps := 1000000) [List.take_succ_cons, List.take_zero, List.drop_succ_cons, List.drop_zero]
 repeat' (first | apply And.intro | intro _)
 any_goals (first | (refine hK7 _ ?_; clear hK7) | (first | omega | (simp only [IntKind.wrap_i64] at *; omega) | (simp_all; done) | (simp_all; omega)))
 refine swp_if fun C10 hC10 => ?_
 try simp (maxSteps := 1000000)
 refine hC10 _ (fun hc10 => ?_) (fun hc10 => ?_)
 ·clear hC10
  try simp at hc10
  refine swp_skip ?_
  try simp only [thn, inBlk]
  refine hK6 _ ?_; clear hK6
  refine swp_seq fun K11 hK11 => ?_
  refine swp_block ?_
  have hle := bPow_le hB (j := j + 1) (by have h := hc10; omega)
  have hmul : IntKind.i64.wrap ((bPow i j : Nat) * (bWide i : Nat) : Int) = ((bPow i (j + 1) : Nat) : Int) := by rw [w64 (by rw [← Int.natCast_mul, ← bPow_succ]; omega), bPow_succ, Int.natCast_mul]
  refine swp_region ty_ok ?_
  refine runs_cut 2 fun R12 hR12 => ?_
  try simp (maxSteps := 1000000) [hs, hs2, hmul, List.take_succ_cons, List.take_zero, List.drop_succ_cons, List.drop_zero]
  repeat' (first | apply And.intro | intro _)
  any_goals (first | (refine hR12 _ ?_; clear hR12) | (first | omega | (simp only [IntKind.wrap_i64] at *; omega) | (simp_all; done) | (simp_all; omega)))
  refine runs_cut 1 fun R13 hR13 => ?_
  try simp (maxSteps := 1000000) [hs, hs2, hmul, List.take_succ_cons, List.take_zero, List.drop_succ_cons, List.drop_zero]
  refine .inl ⟨_, high_ok i h1 h2, ?_⟩
  try simp (maxSteps := 1000000) [hs, hs2, hmul]
  repeat' (first | apply And.intro | intro _)
  any_goals (first | (refine hR13 _ ?_; clear hR13) | (first | omega | (simp only [IntKind.wrap_i64] at *; omega) | (simp_all; done) | (simp_all; omega)))
  refine runs_cut 1 fun R14 hR14 => ?_
  try simp (maxSteps := 1000000) [hs, hs2, hmul, List.take_succ_cons, List.take_zero, List.drop_succ_cons, List.drop_zero]
  repeat' (first | apply And.intro | intro _)
  any_goals (first | (refine hR14 _ ?_; clear hR14) | (first | omega | (simp only [IntKind.wrap_i64] at *; omega) | (simp_all; done) | (simp_all; omega)))
  refine runs_cut 1 fun R15 hR15 => ?_
  try simp (maxSteps := 1000000) [hs, hs2, hmul, List.take_succ_cons, List.take_zero, List.drop_succ_cons, List.drop_zero]
  refine .inl ⟨_, low_ok i h1 h2, ?_⟩
  try simp (maxSteps := 1000000) [hs, hs2, hmul]
  repeat' (first | apply And.intro | intro _)
  any_goals (first | (refine hR15 _ ?_; clear hR15) | (first | omega | (simp only [IntKind.wrap_i64] at *; omega) | (simp_all; done) | (simp_all; omega)))
  try simp (maxSteps := 1000000) [hs, hs2, hmul, List.take_succ_cons, List.take_zero, List.drop_succ_cons, List.drop_zero]
  repeat' (first | apply And.intro | intro _)
  any_goals (first | (refine hK11 _ ?_; clear hK11) | (first | omega | (simp only [IntKind.wrap_i64] at *; omega) | (simp_all; done) | (simp_all; omega)))
  refine swp_region ty_ok ?_
  try simp (maxSteps := 1000000)
  repeat' apply And.intro
  any_goals (try omega)
  refine hL5 _ ⟨[(0, .int .i64 (i : Nat)), (4, .int .i64 ((j + 1) : Nat)), (3, .int .i64 (bPow i (j + 1) : Nat))], [], 0⟩ _ ?_ ⟨(j + 1), by (first | omega | (simp only [IntKind.wrap_i64] at *; omega) | (simp_all; done) | (simp_all; omega)), rfl, rfl⟩ ⟨by simp [getT, PV.lo, lo1, hjw], by simp [getH, Blk.lo, Cells.lo, lo1], rfl, by omega⟩
  omega
 ·clear hC10
  try simp at hc10
  refine swp_exit ?_
  simp [thn, inBlk]
  refine hK3 _ ?_; clear hK3
  refine swp_seq fun K16 hK16 => ?_
  refine swp_region ty_ok ?_
  try simp (maxSteps := 1000000)
  repeat' (first | apply And.intro | intro _)
  any_goals (first | (refine hK16 _ ?_; clear hK16) | (first | omega | (simp only [IntKind.wrap_i64] at *; omega) | (simp_all; done) | (simp_all; omega)))
  refine swp_ret ?_
  simp [fnPost, Try.results123, resP, tupOf]
  have hj : j = bDim i := (by omega)
  subst hj
  rw [bPow_end hB]

theorem rsize_ok (i : Nat) (h1 : 1 ≤ i) (h2 : i ≤ 12) (e : Nat) (he : e < bMany i) : PCall Try.prog 124 [.int .i64 (i : Nat), .int .i64 (e : Nat)] (.int .i64 (bSz i e : Nat)) := by
 have hB := bk_ok h1 h2
 have hdim := hB.dim
 have hlow := hB.low
 have hhigh := hB.high
 have hwide := hB.wide
 have hmany := hB.many
 have hplain := hB.plain
 have hs : IntKind.i64.wrap (bHigh i - bLow i) = bHigh i - bLow i := w64 (by omega)
 have hs2 : IntKind.i64.wrap (bHigh i - bLow i + 1) = (bWide i : Nat) := by rw [w64 (by omega)]; omega
 have hwn : ¬ (bWide i = 0) := (by omega)
 have hsz := bSz_bd hB e
 refine pcall_body ty_ok Try.func124 rfl (by rfl) (by simp) ?_
 rw [Try.ntmps124]
 refine swp_seq fun K1 hK1 => ?_
 refine swp_region ty_ok ?_
 try simp (maxSteps := 1000000)
 repeat' (first | apply And.intro | intro _)
 any_goals (first | (refine hK1 _ ?_; clear hK1) | (first | omega | (simp only [IntKind.wrap_i64] at *; omega) | (simp_all; done) | (simp_all; omega)))
 refine swp_seq fun K2 hK2 => ?_
 refine swp_region ty_ok ?_
 refine runs_cut 1 fun R3 hR3 => ?_
 try simp (maxSteps := 1000000) [List.take_succ_cons, List.take_zero, List.drop_succ_cons, List.drop_zero]
 repeat' (first | apply And.intro | intro _)
 any_goals (first | (refine hR3 _ ?_; clear hR3) | (first | omega | (simp only [IntKind.wrap_i64] at *; omega) | (simp_all; done) | (simp_all; omega)))
 refine runs_cut 1 fun R4 hR4 => ?_
 try simp (maxSteps := 1000000) [List.take_succ_cons, List.take_zero, List.drop_succ_cons, List.drop_zero]
 refine .inl ⟨_, low_ok i h1 h2, ?_⟩
 try simp (maxSteps := 1000000)
 repeat' (first | apply And.intro | intro _)
 any_goals (first | (refine hR4 _ ?_; clear hR4) | (first | omega | (simp only [IntKind.wrap_i64] at *; omega) | (simp_all; done) | (simp_all; omega)))
 try simp (maxSteps := 1000000) [List.take_succ_cons, List.take_zero, List.drop_succ_cons, List.drop_zero]
 repeat' (first | apply And.intro | intro _)
 any_goals (first | (refine hK2 _ ?_; clear hK2) | (first | omega | (simp only [IntKind.wrap_i64] at *; omega) | (simp_all; done) | (simp_all; omega)))
 refine swp_seq fun K5 hK5 => ?_
 refine swp_region ty_ok ?_
 refine runs_cut 1 fun R6 hR6 => ?_
 try simp (maxSteps := 1000000) [hs, hs2, List.take_succ_cons, List.take_zero, List.drop_succ_cons, List.drop_zero]
 repeat' (first | apply And.intro | intro _)
 any_goals (first | (refine hR6 _ ?_; clear hR6) | (first | omega | (simp only [IntKind.wrap_i64] at *; omega) | (simp_all; done) | (simp_all; omega)))
 refine runs_cut 1 fun R7 hR7 => ?_
 try simp (maxSteps := 1000000) [hs, hs2, List.take_succ_cons, List.take_zero, List.drop_succ_cons, List.drop_zero]
 refine .inl ⟨_, high_ok i h1 h2, ?_⟩
 try simp (maxSteps := 1000000) [hs, hs2]
 repeat' (first | apply And.intro | intro _)
 any_goals (first | (refine hR7 _ ?_; clear hR7) | (first | omega | (simp only [IntKind.wrap_i64] at *; omega) | (simp_all; done) | (simp_all; omega)))
 try simp (maxSteps := 1000000) [hs, hs2, List.take_succ_cons, List.take_zero, List.drop_succ_cons, List.drop_zero]
 repeat' (first | apply And.intro | intro _)
 any_goals (first | (refine hK5 _ ?_; clear hK5) | (first | omega | (simp only [IntKind.wrap_i64] at *; omega) | (simp_all; done) | (simp_all; omega)))
 refine swp_seq fun K8 hK8 => ?_
 refine swp_region ty_ok ?_
 try simp (maxSteps := 1000000)
 repeat' (first | apply And.intro | intro _)
 any_goals (first | (refine hK8 _ ?_; clear hK8) | (first | omega | (simp only [IntKind.wrap_i64] at *; omega) | (simp_all; done) | (simp_all; omega)))
 refine swp_seq fun K9 hK9 => ?_
 refine swp_seq fun K10 hK10 => ?_
 refine swp_region ty_ok ?_
 try simp (maxSteps := 1000000)
 repeat' (first | apply And.intro | intro _)
 any_goals (first | (refine hK10 _ ?_; clear hK10) | (first | omega | (simp only [IntKind.wrap_i64] at *; omega) | (simp_all; done) | (simp_all; omega)))
 refine swp_block ?_
 refine swp_loop 0 (fun m_ s_ => ∃ (j : Nat) (q : Nat) (n : Nat), (j ≤ bDim i) ∧ (q < bMany i) ∧ (n + absL (bDg i (bDim i - j) q) = bSz i e) ∧ s_ = ⟨[(0, .int .i64 (i : Nat)), (1, .int .i64 (q : Nat)), (5, .int .i64 (bLow i)), (6, .int .i64 (bWide i : Nat)), (7, .int .i64 (n : Nat)), (8, .int .i64 (j : Nat))], [], 0⟩ ∧ m_ = bDim i - j) _ ⟨[(0, .int .i64 (i : Nat)), (1, .int .i64 (e : Nat)), (5, .int .i64 (bLow i)), (6, .int .i64 (bWide i : Nat)), (7, .int .i64 (0 : Nat)), (8, .int .i64 (0 : Nat))], [], 0⟩ ⟨by simp [getT, PV.lo, lo1], by simp [getH, Blk.lo, Cells.lo, lo1], rfl, by omega⟩ ⟨(0), (e), (0), by omega, by exact he, by (rw [Nat.zero_add]; rfl), rfl, rfl⟩ ?_
 rintro m_ s_ ⟨j, q, n, hL11_0, hL11_1, hL11_2, rfl, rfl⟩ KL11 hL11
 have hjw := wnext (i := j) (by omega)
 have hv := (by assumption : n + absL (bDg i (bDim i - j) q) = bSz i e)
 refine swp_seq fun K12 hK12 => ?_
 refine swp_seq fun K13 hK13 => ?_
 refine swp_region ty_ok ?_
 refine runs_cut 2 fun R14 hR14 => ?_
 try simp (maxSteps := 1000000) [List.take_succ_cons, List.take_zero, List.drop_succ_cons, List.drop_zero]
 repeat' (first | apply And.intro | intro _)
 any_goals (first | (refine hR14 _ ?_; clear hR14) | (first | omega | (simp only [IntKind.wrap_i64] at *; omega) | (simp_all; done) | (simp_all; omega)))
 refine runs_cut 1 fun R15 hR15 => ?_
 try simp (maxSteps := 1000000) [List.take_succ_cons, List.take_zero, List.drop_succ_cons, List.drop_zero]
 refine .inl ⟨_, dim_ok i h1 h2, ?_⟩
 try simp (maxSteps := 1000000)
 repeat' (first | apply And.intro | intro _)
 any_goals (first | (refine hR15 _ ?_; clear hR15) | (first | omega | (simp only [IntKind.wrap_i64] at *; omega) | (simp_all; done) | (simp_all; omega)))
 try simp (maxSteps := 1000000) [List.take_succ_cons, List.take_zero, List.drop_succ_cons, List.drop_zero]
 repeat' (first | apply And.intro | intro _)
 any_goals (first | (refine hK13 _ ?_; clear hK13) | (first | omega | (simp only [IntKind.wrap_i64] at *; omega) | (simp_all; done) | (simp_all; omega)))
 refine swp_if fun C16 hC16 => ?_
 try simp (maxSteps := 1000000)
 refine hC16 _ (fun hc16 => ?_) (fun hc16 => ?_)
 ·clear hC16
  try simp at hc16
  refine swp_skip ?_
  try simp only [thn, inBlk]
  refine hK12 _ ?_; clear hK12
  refine swp_seq fun K17 hK17 => ?_
  refine swp_block ?_
  refine swp_seq fun K18 hK18 => ?_
  obtain ⟨r, hr⟩ : ∃ r, q % bWide i = r := ⟨_, rfl⟩
  have hrw : r < bWide i := by rw [← hr]; exact Nat.mod_lt _ (by omega)
  have hrm := tmod_nat hr
  have hrl : IntKind.i64.wrap (bLow i + (r : Int)) = bLow i + r := w64 (by omega)
  obtain ⟨p, hp⟩ : ∃ p, q / bWide i = p := ⟨_, rfl⟩
  have hpd := tdiv_nat hp
  have hpq : p ≤ q := by rw [← hp]; exact Nat.div_le_self _ _
  have hpw : IntKind.i64.wrap (p : Int) = p := w64 (by omega)
  have hab : absL (bDg i (bDim i - j) q) = absL (bDg i (bDim i - j - 1) p) + (bLow i + (r : Int)).natAbs := by rw [bDg_step (k := bDim i - j) (by omega), hr, hp, absL_app]; simp [absL]
  obtain ⟨x, hx⟩ : ∃ x, absL (bDg i (bDim i - j - 1) p) = x := ⟨_, rfl⟩
  rw [hx] at hab
  refine swp_region ty_ok ?_
  try simp (maxSteps := 1000000) [hrm, hrl, hwn]
  repeat' (first | apply And.intro | intro _)
  any_goals (first | (refine hK18 _ ?_; clear hK18) | (first | omega | (simp only [IntKind.wrap_i64] at *; omega) | (simp_all; done) | (simp_all; omega)))
  refine swp_seq fun K19 hK19 => ?_
  refine swp_seq fun K20 hK20 => ?_
  refine swp_region ty_ok ?_
  try simp (maxSteps := 1000000)
  repeat' (first | apply And.intro | intro _)
  any_goals (first | (refine hK20 _ ?_; clear hK20) | (first | omega | (simp only [IntKind.wrap_i64] at *; omega) | (simp_all; done) | (simp_all; omega)))
  refine swp_if fun C21 hC21 => ?_
  try simp (maxSteps := 1000000)
  refine hC21 _ (fun hc21 => ?_) (fun hc21 => ?_)
  ·clear hC21
   try simp at hc21
   have hsub : IntKind.i64.wrap ((n : Int) - (bLow i + (r : Int))) = ((n + (bLow i + (r : Int)).natAbs : Nat) : Int) := by have h := hc21; rw [w64 (by omega)]; omega
   refine swp_region ty_ok ?_
   try simp (maxSteps := 1000000) [hsub]
   repeat' (first | apply And.intro | intro _)
   any_goals (first | (refine hK19 _ ?_; clear hK19) | (first | omega | (simp only [IntKind.wrap_i64] at *; omega) | (simp_all; done) | (simp_all; omega)))
   refine swp_region ty_ok ?_
   try simp (maxSteps := 1000000) [hpd, hpw, hwn]
   repeat' (first | apply And.intro | intro _)
   any_goals (first | (refine hK17 _ ?_; clear hK17) | (first | omega | (simp only [IntKind.wrap_i64] at *; omega) | (simp_all; done) | (simp_all; omega)))
   refine swp_region ty_ok ?_
   try simp (maxSteps := 1000000)
   repeat' apply And.intro
   any_goals (try omega)
   refine hL11 _ ⟨[(0, .int .i64 (i : Nat)), (1, .int .i64 (p : Nat)), (5, .int .i64 (bLow i)), (6, .int .i64 (bWide i : Nat)), (7, .int .i64 ((n + (bLow i + (r : Int)).natAbs) : Nat)), (8, .int .i64 ((j + 1) : Nat))], [], 0⟩ _ ?_ ⟨(j + 1), (p), (n + (bLow i + (r : Int)).natAbs), by omega, by omega, by (rw [show bDim i - (j + 1) = bDim i - j - 1 by omega, hx]; omega), rfl, rfl⟩ ⟨by simp [getT, PV.lo, lo1, hjw], by simp [getH, Blk.lo, Cells.lo, lo1], rfl, by omega⟩
   omega
  ·clear hC21
   try simp at hc21
   have hsub : IntKind.i64.wrap ((n : Int) + (bLow i + (r : Int))) = ((n + (bLow i + (r : Int)).natAbs : Nat) : Int) := by have h := hc21; rw [w64 (by omega)]; omega
   refine swp_region ty_ok ?_
   try simp (maxSteps := 1000000) [hsub]
   repeat' (first | apply And.intro | intro _)
   any_goals (first | (refine hK19 _ ?_; clear hK19) | (first | omega | (simp only [IntKind.wrap_i64] at *; omega) | (simp_all; done) | (simp_all; omega)))
   refine swp_region ty_ok ?_
   try simp (maxSteps := 1000000) [hpd, hpw, hwn]
   repeat' (first | apply And.intro | intro _)
   any_goals (first | (refine hK17 _ ?_; clear hK17) | (first | omega | (simp only [IntKind.wrap_i64] at *; omega) | (simp_all; done) | (simp_all; omega)))
   refine swp_region ty_ok ?_
   try simp (maxSteps := 1000000)
   repeat' apply And.intro
   any_goals (try omega)
   refine hL11 _ ⟨[(0, .int .i64 (i : Nat)), (1, .int .i64 (p : Nat)), (5, .int .i64 (bLow i)), (6, .int .i64 (bWide i : Nat)), (7, .int .i64 ((n + (bLow i + (r : Int)).natAbs) : Nat)), (8, .int .i64 ((j + 1) : Nat))], [], 0⟩ _ ?_ ⟨(j + 1), (p), (n + (bLow i + (r : Int)).natAbs), by omega, by omega, by (rw [show bDim i - (j + 1) = bDim i - j - 1 by omega, hx]; omega), rfl, rfl⟩ ⟨by simp [getT, PV.lo, lo1, hjw], by simp [getH, Blk.lo, Cells.lo, lo1], rfl, by omega⟩
   omega
 ·clear hC16
  try simp at hc16
  refine swp_exit ?_
  simp [thn, inBlk]
  refine hK9 _ ?_; clear hK9
  refine swp_seq fun K22 hK22 => ?_
  refine swp_region ty_ok ?_
  try simp (maxSteps := 1000000)
  repeat' (first | apply And.intro | intro _)
  any_goals (first | (refine hK22 _ ?_; clear hK22) | (first | omega | (simp only [IntKind.wrap_i64] at *; omega) | (simp_all; done) | (simp_all; omega)))
  refine swp_ret ?_
  simp [fnPost, Try.results124, resP, tupOf]
  have hj : bDim i - j = 0 := (by omega)
  rw [hj] at hv
  have : absL (bDg i 0 q) = 0 := rfl
  omega

set_option maxHeartbeats 8000000 in
theorem rbook_ok (i : Nat) (h1 : 1 ≤ i) (h2 : i ≤ 12)  : PCall Try.prog 116 [.int .i64 (i : Nat)] (bookV i) := by
 have hB := bk_ok h1 h2
 have hdim := hB.dim
 have hlow := hB.low
 have hhigh := hB.high
 have hwide := hB.wide
 have hmany := hB.many
 have hplain := hB.plain
 have hE := bke h1 h2
 refine pcall_body ty_ok Try.func116 rfl (by rfl) (by simp) ?_
 rw [Try.ntmps116]
 refine swp_seq fun K1 hK1 => ?_
 refine swp_region ty_ok ?_
 try simp (maxSteps := 1000000) [bookV]
 repeat' (first | apply And.intro | intro _)
 any_goals (first | (refine hK1 _ ?_; clear hK1) | (first | omega | (simp only [IntKind.wrap_i64] at *; omega) | (simp_all; done) | (simp_all; omega)))
 refine swp_seq fun K2 hK2 => ?_
 refine swp_region ty_ok ?_
 refine runs_cut 2 fun R3 hR3 => ?_
 try simp (maxSteps := 1000000) [bookV, List.take_succ_cons, List.take_zero, List.drop_succ_cons, List.drop_zero]
 repeat' (first | apply And.intro | intro _)
 any_goals (first | (refine hR3 _ ?_; clear hR3) | (first | omega | (simp only [IntKind.wrap_i64] at *; omega) | (simp_all; done) | (simp_all; omega)))
 refine runs_cut 1 fun R4 hR4 => ?_
 try simp (maxSteps := 1000000) [bookV, List.take_succ_cons, List.take_zero, List.drop_succ_cons, List.drop_zero]
 refine .inl ⟨_, plain_ok i h1 h2, ?_⟩
 try simp (maxSteps := 1000000) [bookV]
 repeat' (first | apply And.intro | intro _)
 any_goals (first | (refine hR4 _ ?_; clear hR4) | (first | omega | (simp only [IntKind.wrap_i64] at *; omega) | (simp_all; done) | (simp_all; omega)))
 try simp (maxSteps := 1000000) [bookV, List.take_succ_cons, List.take_zero, List.drop_succ_cons, List.drop_zero]
 repeat' (first | apply And.intro | intro _)
 any_goals (first | (refine hK2 _ ?_; clear hK2) | (first | omega | (simp only [IntKind.wrap_i64] at *; omega) | (simp_all; done) | (simp_all; omega)))
 refine swp_seq fun K5 hK5 => ?_
 refine swp_region ty_ok ?_
 refine runs_cut 1 fun R6 hR6 => ?_
 try simp (maxSteps := 1000000) [bookV, List.take_succ_cons, List.take_zero, List.drop_succ_cons, List.drop_zero]
 repeat' (first | apply And.intro | intro _)
 any_goals (first | (refine hR6 _ ?_; clear hR6) | (first | omega | (simp only [IntKind.wrap_i64] at *; omega) | (simp_all; done) | (simp_all; omega)))
 refine runs_cut 1 fun R7 hR7 => ?_
 try simp (maxSteps := 1000000) [bookV, List.take_succ_cons, List.take_zero, List.drop_succ_cons, List.drop_zero]
 refine .inl ⟨_, rmany_ok i h1 h2, ?_⟩
 try simp (maxSteps := 1000000) [bookV]
 repeat' (first | apply And.intro | intro _)
 any_goals (first | (refine hR7 _ ?_; clear hR7) | (first | omega | (simp only [IntKind.wrap_i64] at *; omega) | (simp_all; done) | (simp_all; omega)))
 try simp (maxSteps := 1000000) [bookV, List.take_succ_cons, List.take_zero, List.drop_succ_cons, List.drop_zero]
 repeat' (first | apply And.intro | intro _)
 any_goals (first | (refine hK5 _ ?_; clear hK5) | (first | omega | (simp only [IntKind.wrap_i64] at *; omega) | (simp_all; done) | (simp_all; omega)))
 refine swp_seq fun K8 hK8 => ?_
 refine swp_region ty_ok ?_
 refine runs_cut 1 fun R9 hR9 => ?_
 try simp (maxSteps := 1000000) [bookV, List.take_succ_cons, List.take_zero, List.drop_succ_cons, List.drop_zero]
 repeat' (first | apply And.intro | intro _)
 any_goals (first | (refine hR9 _ ?_; clear hR9) | (first | omega | (simp only [IntKind.wrap_i64] at *; omega) | (simp_all; done) | (simp_all; omega)))
 refine runs_cut 1 fun R10 hR10 => ?_
 try simp (maxSteps := 1000000) [bookV, List.take_succ_cons, List.take_zero, List.drop_succ_cons, List.drop_zero]
 repeat' (first | apply And.intro | intro _)
 any_goals (first | (refine Or.inr (hR10 _ ?_); clear hR10) | (first | omega | (simp only [IntKind.wrap_i64] at *; omega) | (simp_all; done) | (simp_all; omega)))
 try simp (maxSteps := 1000000) [bookV, List.take_succ_cons, List.take_zero, List.drop_succ_cons, List.drop_zero]
 repeat' (first | apply And.intro | intro _)
 any_goals (first | (refine hK8 _ ?_; clear hK8) | (first | omega | (simp only [IntKind.wrap_i64] at *; omega) | (simp_all; done) | (simp_all; omega)))
 refine swp_seq fun K11 hK11 => ?_
 refine swp_region ty_ok ?_
 refine runs_cut 1 fun R12 hR12 => ?_
 try simp (maxSteps := 1000000) [bookV, List.take_succ_cons, List.take_zero, List.drop_succ_cons, List.drop_zero]
 repeat' (first | apply And.intro | intro _)
 any_goals (first | (refine hR12 _ ?_; clear hR12) | (first | omega | (simp only [IntKind.wrap_i64] at *; omega) | (simp_all; done) | (simp_all; omega)))
 refine runs_cut 1 fun R13 hR13 => ?_
 try simp (maxSteps := 1000000) [bookV, List.take_succ_cons, List.take_zero, List.drop_succ_cons, List.drop_zero]
 repeat' (first | apply And.intro | intro _)
 any_goals (first | (refine Or.inr (hR13 _ ?_); clear hR13) | (first | omega | (simp only [IntKind.wrap_i64] at *; omega) | (simp_all; done) | (simp_all; omega)))
 try simp (maxSteps := 1000000) [bookV, List.take_succ_cons, List.take_zero, List.drop_succ_cons, List.drop_zero]
 repeat' (first | apply And.intro | intro _)
 any_goals (first | (refine hK11 _ ?_; clear hK11) | (first | omega | (simp only [IntKind.wrap_i64] at *; omega) | (simp_all; done) | (simp_all; omega)))
 refine swp_seq fun K14 hK14 => ?_
 refine swp_seq fun K15 hK15 => ?_
 refine swp_region ty_ok ?_
 try simp (maxSteps := 1000000) [bookV]
 repeat' (first | apply And.intro | intro _)
 any_goals (first | (refine hK15 _ ?_; clear hK15) | (first | omega | (simp only [IntKind.wrap_i64] at *; omega) | (simp_all; done) | (simp_all; omega)))
 refine swp_block ?_
 refine swp_loop 4 (fun m_ s_ => ∃ (j : Nat), (j ≤ bMany i) ∧ s_ = ⟨[(0, .int .i64 (i : Nat)), (2, .ptr 0 0 0 1), (3, .ptr 1 0 0 1), (4, .int .i64 (bMany i : Nat)), (5, .sl 3 0 (bMany i) (bMany i)), (6, .int .i64 (j : Nat))], [(0, some ⟨.rows 4 [[.int .i64 0, .int .i64 0, .nil (.ints .i64 []), .nil (.ints .i64 [])]], true, 25⟩), (1, some ⟨.rows 4 [[.int .i64 (i : Nat), .int .i64 (bPlain i : Nat), .nil (.ints .i64 []), .sl 2 0 (bMany i) (bMany i)]], true, 25⟩), (2, some ⟨.ints .i64 (List.replicate (bMany i) 0), false, 3⟩), (3, some ⟨.ints .i64 (szL i j), false, 3⟩)], 4⟩ ∧ m_ = bMany i - j) _ ⟨[(0, .int .i64 (i : Nat)), (2, .ptr 0 0 0 1), (3, .ptr 1 0 0 1), (4, .int .i64 (bMany i : Nat)), (5, .sl 3 0 (bMany i) (bMany i)), (6, .int .i64 (0 : Nat))], [(0, some ⟨.rows 4 [[.int .i64 0, .int .i64 0, .nil (.ints .i64 []), .nil (.ints .i64 [])]], true, 25⟩), (1, some ⟨.rows 4 [[.int .i64 (i : Nat), .int .i64 (bPlain i : Nat), .nil (.ints .i64 []), .sl 2 0 (bMany i) (bMany i)]], true, 25⟩), (2, some ⟨.ints .i64 (List.replicate (bMany i) 0), false, 3⟩), (3, some ⟨.ints .i64 (szL i 0), false, 3⟩)], 4⟩ ⟨by simp [getT, PV.lo, lo1], by simp [getH, Blk.lo, Cells.lo, lo1, szL_zero], rfl, by omega⟩ ⟨(0), by (first | omega | (simp only [IntKind.wrap_i64] at *; omega) | (simp_all; done) | (simp_all; omega)), rfl, rfl⟩ ?_
 rintro m_ s_ ⟨j, hL16_0, rfl, rfl⟩ KL16 hL16
 have hjw := wnext (i := j) (by omega)
 refine swp_seq fun K17 hK17 => ?_
 refine swp_seq fun K18 hK18 => ?_
 refine swp_region ty_ok ?_
 try simp (maxSteps := 1000000) [bookV]
 repeat' (first | apply And.intro | intro _)
 any_goals (first | (refine hK18 _ ?_; clear hK18) | (first | omega | (simp only [IntKind.wrap_i64] at *; omega) | (simp_all; done) | (simp_all; omega)))
 refine swp_if fun C19 hC19 => ?_
 try simp (maxSteps := 1000000) [bookV]
 refine hC19 _ (fun hc19 => ?_) (fun hc19 => ?_)
 ·clear hC19
  try simp at hc19
  refine swp_skip ?_
  try simp only [thn, inBlk]
  refine hK17 _ ?_; clear hK17
  refine swp_seq fun K20 hK20 => ?_
  refine swp_block ?_
  have hset := szL_set (i := i) (n := j) (by have h := hc19; omega)
  have hsl := szL_len (i := i) (n := j) (by omega)
  refine swp_region ty_ok ?_
  refine runs_cut 4 fun R21 hR21 => ?_
  try simp (maxSteps := 1000000) [bookV, hset, hsl, List.take_succ_cons, List.take_zero, List.drop_succ_cons, List.drop_zero]
  repeat' (first | apply And.intro | intro _)
  any_goals (first | (refine hR21 _ ?_; clear hR21) | (first | omega | (simp only [IntKind.wrap_i64] at *; omega) | (simp_all; done) | (simp_all; omega)))
  refine runs_cut 1 fun R22 hR22 => ?_
  try simp (maxSteps := 1000000) [bookV, hset, hsl, List.take_succ_cons, List.take_zero, List.drop_succ_cons, List.drop_zero]
  refine .inl ⟨_, rsize_ok i h1 h2 j (by omega), ?_⟩
  try simp (maxSteps := 1000000) [bookV, hset, hsl]
  repeat' (first | apply And.intro | intro _)
  any_goals (first | (refine hR22 _ ?_; clear hR22) | (first | omega | (simp only [IntKind.wrap_i64] at *; omega) | (simp_all; done) | (simp_all; omega)))
  try simp (maxSteps := 1000000) [bookV, hset, hsl, List.take_succ_cons, List.take_zero, List.drop_succ_cons, List.drop_zero]
  repeat' (first | apply And.intro | intro _)
  any_goals (first | (refine hK20 _ ?_; clear hK20) | (first | omega | (simp only [IntKind.wrap_i64] at *; omega) | (simp_all; done) | (simp_all; omega)))
  refine swp_region ty_ok ?_
  try simp (maxSteps := 1000000) [bookV]
  repeat' apply And.intro
  any_goals (try omega)
  refine hL16 _ ⟨[(0, .int .i64 (i : Nat)), (2, .ptr 0 0 0 1), (3, .ptr 1 0 0 1), (4, .int .i64 (bMany i : Nat)), (5, .sl 3 0 (bMany i) (bMany i)), (6, .int .i64 ((j + 1) : Nat))], [(0, some ⟨.rows 4 [[.int .i64 0, .int .i64 0, .nil (.ints .i64 []), .nil (.ints .i64 [])]], true, 25⟩), (1, some ⟨.rows 4 [[.int .i64 (i : Nat), .int .i64 (bPlain i : Nat), .nil (.ints .i64 []), .sl 2 0 (bMany i) (bMany i)]], true, 25⟩), (2, some ⟨.ints .i64 (List.replicate (bMany i) 0), false, 3⟩), (3, some ⟨.ints .i64 (szL i (j + 1)), false, 3⟩)], 4⟩ _ ?_ ⟨(j + 1), by (first | omega | (simp only [IntKind.wrap_i64] at *; omega) | (simp_all; done) | (simp_all; omega)), rfl, rfl⟩ ⟨by simp [getT, PV.lo, lo1, hjw], by simp [getH, Blk.lo, Cells.lo, lo1], rfl, by omega⟩
  omega
 ·clear hC19
  try simp at hc19
  refine swp_exit ?_
  simp [thn, inBlk]
  refine hK14 _ ?_; clear hK14
  refine swp_seq fun K23 hK23 => ?_
  refine swp_seq fun K24 hK24 => ?_
  refine swp_region ty_ok ?_
  try simp (maxSteps := 1000000) [bookV]
  repeat' (first | apply And.intro | intro _)
  any_goals (first | (refine hK24 _ ?_; clear hK24) | (first | omega | (simp only [IntKind.wrap_i64] at *; omega) | (simp_all; done) | (simp_all; omega)))
  refine swp_block ?_
  have hj : j = bMany i := (by omega)
  subst hj
  have hp0 : bPart i 0 0 = [] := by rw [bPart_zero]; rfl
  have hr0 : rkL (bMany i) [] = List.replicate (bMany i) 0 := rfl
  have he0 : eI [] = [] := rfl
  have htop := topF h2
  refine swp_ownb 1 2 3 (by rfl) (by rfl) (by rfl) ?_
  simp only [List.set]
  refine swp_loop 5 (fun m_ s_ => ∃ (s : Nat), (s ≤ bTop i) ∧ s_ = ⟨[(0, .int .i64 (i : Nat)), (2, .ptr 0 0 0 1), (3, .ptr 1 0 0 1), (4, .int .i64 (bMany i : Nat)), (5, .sl 3 0 (bMany i) (bMany i)), (7, .int .i64 (s : Nat))], [(0, some ⟨.rows 4 [[.int .i64 0, .int .i64 0, .nil (.ints .i64 []), .nil (.ints .i64 [])]], true, 25⟩), (1, some ⟨.rows 4 [[.int .i64 (i : Nat), .int .i64 (bPlain i : Nat), .sl 4 0 (bPart i s 0).length (bPart i s 0).length, .sl 2 0 (bMany i) (bMany i)]], true, 25⟩), (2, some ⟨.ints .i64 (rkL (bMany i) (bPart i s 0)), false, 3⟩), (3, some ⟨.ints .i64 (szL i (bMany i)), false, 3⟩), (4, some ⟨.ints .i64 (eI (bPart i s 0)), false, 3⟩)], 5⟩ ∧ m_ = bTop i - s) _ ⟨[(0, .int .i64 (i : Nat)), (2, .ptr 0 0 0 1), (3, .ptr 1 0 0 1), (4, .int .i64 (bMany i : Nat)), (5, .sl 3 0 (bMany i) (bMany i)), (7, .int .i64 (0 : Nat))], [(0, some ⟨.rows 4 [[.int .i64 0, .int .i64 0, .nil (.ints .i64 []), .nil (.ints .i64 [])]], true, 25⟩), (1, some ⟨.rows 4 [[.int .i64 (i : Nat), .int .i64 (bPlain i : Nat), .sl 4 0 (bPart i 0 0).length (bPart i 0 0).length, .sl 2 0 (bMany i) (bMany i)]], true, 25⟩), (2, some ⟨.ints .i64 (rkL (bMany i) (bPart i 0 0)), false, 3⟩), (3, some ⟨.ints .i64 (szL i (bMany i)), false, 3⟩), (4, some ⟨.ints .i64 (eI (bPart i 0 0)), false, 3⟩)], 5⟩ ⟨by simp [getT, PV.lo, lo1], by simp [getH, Blk.lo, Cells.lo, lo1, hp0, hr0, he0], rfl, by omega⟩ ⟨(0), by (first | omega | (simp only [IntKind.wrap_i64] at *; omega) | (simp_all; done) | (simp_all; omega)), rfl, rfl⟩ ?_
  rintro m_ s_ ⟨s, hL25_0, rfl, rfl⟩ KL25 hL25
  have hsw := wnext (i := s) (by omega)
  refine swp_seq fun K26 hK26 => ?_
  refine swp_seq fun K27 hK27 => ?_
  refine swp_region ty_ok ?_
  try simp (maxSteps := 1000000) [bookV]
  repeat' (first | apply And.intro | intro _)
  any_goals (first | (refine hK27 _ ?_; clear hK27) | (first | omega | (simp only [IntKind.wrap_i64] at *; omega) | (simp_all; done) | (simp_all; omega)))
  refine swp_if fun C28 hC28 => ?_
  try simp (maxSteps := 1000000) [bookV]
  refine hC28 _ (fun hc28 => ?_) (fun hc28 => ?_)
  ·clear hC28
   try simp at hc28
   refine swp_skip ?_
   try simp only [thn, inBlk]
   refine hK26 _ ?_; clear hK26
   refine swp_seq fun K29 hK29 => ?_
   refine swp_block ?_
   refine swp_seq fun K30 hK30 => ?_
   have hlt : s < bTop i := part_lt hE (by omega) (by rw [← bPart_zero]; have h := hc28; omega)
   refine swp_region ty_ok ?_
   try simp (maxSteps := 1000000) [bookV]
   repeat' (first | apply And.intro | intro _)
   any_goals (first | (refine hK30 _ ?_; clear hK30) | (first | omega | (simp only [IntKind.wrap_i64] at *; omega) | (simp_all; done) | (simp_all; omega)))
   refine swp_block ?_
   refine swp_loop 5 (fun m_ s_ => ∃ (t : Nat), (t ≤ bMany i) ∧ s_ = ⟨[(0, .int .i64 (i : Nat)), (2, .ptr 0 0 0 1), (3, .ptr 1 0 0 1), (4, .int .i64 (bMany i : Nat)), (5, .sl 3 0 (bMany i) (bMany i)), (7, .int .i64 (s : Nat)), (8, .int .i64 (t : Nat))], [(0, some ⟨.rows 4 [[.int .i64 0, .int .i64 0, .nil (.ints .i64 []), .nil (.ints .i64 [])]], true, 25⟩), (1, some ⟨.rows 4 [[.int .i64 (i : Nat), .int .i64 (bPlain i : Nat), .sl 4 0 (bPart i s t).length (bPart i s t).length, .sl 2 0 (bMany i) (bMany i)]], true, 25⟩), (2, some ⟨.ints .i64 (rkL (bMany i) (bPart i s t)), false, 3⟩), (3, some ⟨.ints .i64 (szL i (bMany i)), false, 3⟩), (4, some ⟨.ints .i64 (eI (bPart i s t)), false, 3⟩)], 5⟩ ∧ m_ = bMany i - t) _ ⟨[(0, .int .i64 (i : Nat)), (2, .ptr 0 0 0 1), (3, .ptr 1 0 0 1), (4, .int .i64 (bMany i : Nat)), (5, .sl 3 0 (bMany i) (bMany i)), (7, .int .i64 (s : Nat)), (8, .int .i64 (0 : Nat))], [(0, some ⟨.rows 4 [[.int .i64 0, .int .i64 0, .nil (.ints .i64 []), .nil (.ints .i64 [])]], true, 25⟩), (1, some ⟨.rows 4 [[.int .i64 (i : Nat), .int .i64 (bPlain i : Nat), .sl 4 0 (bPart i s 0).length (bPart i s 0).length, .sl 2 0 (bMany i) (bMany i)]], true, 25⟩), (2, some ⟨.ints .i64 (rkL (bMany i) (bPart i s 0)), false, 3⟩), (3, some ⟨.ints .i64 (szL i (bMany i)), false, 3⟩), (4, some ⟨.ints .i64 (eI (bPart i s 0)), false, 3⟩)], 5⟩ ⟨by simp [getT, PV.lo, lo1], by simp [getH, Blk.lo, Cells.lo, lo1], rfl, by omega⟩ ⟨(0), by (first | omega | (simp only [IntKind.wrap_i64] at *; omega) | (simp_all; done) | (simp_all; omega)), rfl, rfl⟩ ?_
   rintro m_ s_ ⟨t, hL31_0, rfl, rfl⟩ KL31 hL31
   have htw := wnext (i := t) (by omega)
   refine swp_seq fun K32 hK32 => ?_
   refine swp_seq fun K33 hK33 => ?_
   refine swp_region ty_ok ?_
   try simp (maxSteps := 1000000) [bookV]
   repeat' (first | apply And.intro | intro _)
   any_goals (first | (refine hK33 _ ?_; clear hK33) | (first | omega | (simp only [IntKind.wrap_i64] at *; omega) | (simp_all; done) | (simp_all; omega)))
   refine swp_if fun C34 hC34 => ?_
   try simp (maxSteps := 1000000) [bookV]
   refine hC34 _ (fun hc34 => ?_) (fun hc34 => ?_)
   ·clear hC34
    try simp at hc34
    refine swp_skip ?_
    try simp only [thn, inBlk]
    refine hK32 _ ?_; clear hK32
    refine swp_seq fun K35 hK35 => ?_
    refine swp_block ?_
    refine swp_seq fun K36 hK36 => ?_
    have hat := szL_at (i := i) (t := t) (by have h := hc34; omega)
    have hsl := szL_len (i := i) (n := bMany i) (Nat.le_refl _)
    refine swp_region ty_ok ?_
    try simp (maxSteps := 1000000) [bookV, hat, hsl]
    repeat' (first | apply And.intro | intro _)
    any_goals (first | (refine hK36 _ ?_; clear hK36) | (first | omega | (simp only [IntKind.wrap_i64] at *; omega) | (simp_all; done) | (simp_all; omega)))
    refine swp_if fun C37 hC37 => ?_
    try simp (maxSteps := 1000000) [bookV, hat, hsl]
    refine hC37 _ (fun hc37 => ?_) (fun hc37 => ?_)
    ·clear hC37
     try simp at hc37
     refine swp_seq fun K38 hK38 => ?_
     have hrl := rkL_len (bMany i) (bPart i s t)
     have hel := eI_len (bPart i s t)
     have hset := rkL_snoc (bMany i) (bPart i s t) t
     have hbs : bSz i t = s := (by have h := hc37; omega)
     have hyes := bPart_yes hbs
     rw [← hyes] at hset
     refine swp_region ty_ok ?_
     try simp (maxSteps := 1000000) [bookV, hrl, hset, hel]
     repeat' (first | apply And.intro | intro _)
     any_goals (first | (refine hK38 _ ?_; clear hK38) | (first | omega | (simp only [IntKind.wrap_i64] at *; omega) | (simp_all; done) | (simp_all; omega)))
     have hpb := bPart_bd (i := i) (s := s) (t := t) hmany.2.2 (by omega) (by omega)
     have hsn := eI_snoc (bPart i s t) t
     rw [← hyes] at hsn
     have hln : (bPart i s (t + 1)).length = (bPart i s t).length + 1 := by rw [hyes]; simp
     refine swp_region ty_ok ?_
     refine runs_cut 3 fun R39 hR39 => ?_
     try simp (maxSteps := 1000000) [bookV, hsn, hln, hel, List.take_succ_cons, List.take_zero, List.drop_succ_cons, List.drop_zero]
     repeat' (first | apply And.intro | intro _)
     any_goals (first | (refine hR39 _ ?_; clear hR39) | (first | omega | (simp only [IntKind.wrap_i64] at *; omega) | (simp_all; done) | (simp_all; omega)))
     refine runs_cut 1 fun R40 hR40 => ?_
     try simp (maxSteps := 1000000) [bookV, hsn, hln, hel, List.take_succ_cons, List.take_zero, List.drop_succ_cons, List.drop_zero]
     repeat' (first | apply And.intro | intro _)
     any_goals (first | (refine Or.inl (hR40 _ ?_); clear hR40) | (first | omega | (simp only [IntKind.wrap_i64] at *; omega) | (simp_all; done) | (simp_all; omega)))
     try simp (maxSteps := 1000000) [bookV, hsn, hln, hel, List.take_succ_cons, List.take_zero, List.drop_succ_cons, List.drop_zero]
     repeat' (first | apply And.intro | intro _)
     any_goals (first | (refine hK35 _ ?_; clear hK35) | (first | omega | (simp only [IntKind.wrap_i64] at *; omega) | (simp_all; done) | (simp_all; omega)))
     first | (have hno := bPart_no (i := i) (s := s) (t := t) (by have h := hc37; omega)) | skip
     refine swp_region ty_ok ?_
     try simp (maxSteps := 1000000) [bookV]
     repeat' apply And.intro
     any_goals (try omega)
     refine hL31 _ ⟨[(0, .int .i64 (i : Nat)), (2, .ptr 0 0 0 1), (3, .ptr 1 0 0 1), (4, .int .i64 (bMany i : Nat)), (5, .sl 3 0 (bMany i) (bMany i)), (7, .int .i64 (s : Nat)), (8, .int .i64 ((t + 1) : Nat))], [(0, some ⟨.rows 4 [[.int .i64 0, .int .i64 0, .nil (.ints .i64 []), .nil (.ints .i64 [])]], true, 25⟩), (1, some ⟨.rows 4 [[.int .i64 (i : Nat), .int .i64 (bPlain i : Nat), .sl 4 0 (bPart i s (t + 1)).length (bPart i s (t + 1)).length, .sl 2 0 (bMany i) (bMany i)]], true, 25⟩), (2, some ⟨.ints .i64 (rkL (bMany i) (bPart i s (t + 1))), false, 3⟩), (3, some ⟨.ints .i64 (szL i (bMany i)), false, 3⟩), (4, some ⟨.ints .i64 (eI (bPart i s (t + 1))), false, 3⟩)], 5⟩ _ ?_ ⟨(t + 1), by (first | omega | (simp only [IntKind.wrap_i64] at *; omega) | (simp_all; done) | (simp_all; omega)), rfl, rfl⟩ ⟨by simp [getT, PV.lo, lo1, htw], by first | (simp [getH, Blk.lo, Cells.lo, lo1, hno]; done) | (simp [getH, Blk.lo, Cells.lo, lo1, hln]; done), rfl, by omega⟩
     omega
    ·clear hC37
     try simp at hc37
     refine swp_skip ?_
     try simp only [thn, inBlk]
     refine hK35 _ ?_; clear hK35
     first | (have hno := bPart_no (i := i) (s := s) (t := t) (by have h := hc37; omega)) | skip
     refine swp_region ty_ok ?_
     try simp (maxSteps := 1000000) [bookV]
     repeat' apply And.intro
     any_goals (try omega)
     refine hL31 _ ⟨[(0, .int .i64 (i : Nat)), (2, .ptr 0 0 0 1), (3, .ptr 1 0 0 1), (4, .int .i64 (bMany i : Nat)), (5, .sl 3 0 (bMany i) (bMany i)), (7, .int .i64 (s : Nat)), (8, .int .i64 ((t + 1) : Nat))], [(0, some ⟨.rows 4 [[.int .i64 0, .int .i64 0, .nil (.ints .i64 []), .nil (.ints .i64 [])]], true, 25⟩), (1, some ⟨.rows 4 [[.int .i64 (i : Nat), .int .i64 (bPlain i : Nat), .sl 4 0 (bPart i s (t + 1)).length (bPart i s (t + 1)).length, .sl 2 0 (bMany i) (bMany i)]], true, 25⟩), (2, some ⟨.ints .i64 (rkL (bMany i) (bPart i s (t + 1))), false, 3⟩), (3, some ⟨.ints .i64 (szL i (bMany i)), false, 3⟩), (4, some ⟨.ints .i64 (eI (bPart i s (t + 1))), false, 3⟩)], 5⟩ _ ?_ ⟨(t + 1), by (first | omega | (simp only [IntKind.wrap_i64] at *; omega) | (simp_all; done) | (simp_all; omega)), rfl, rfl⟩ ⟨by simp [getT, PV.lo, lo1, htw], by first | (simp [getH, Blk.lo, Cells.lo, lo1, hno]; done) | (simp [getH, Blk.lo, Cells.lo, lo1, hln]; done), rfl, by omega⟩
     omega
   ·clear hC34
    try simp at hc34
    refine swp_exit ?_
    simp [thn, inBlk]
    refine hK29 _ ?_; clear hK29
    have htm : t = bMany i := (by omega)
    have hpe : bPart i s t = bPart i (s + 1) 0 := by rw [htm, bPart_end, bPart_zero]
    refine swp_region ty_ok ?_
    try simp (maxSteps := 1000000) [bookV]
    repeat' apply And.intro
    any_goals (try omega)
    refine hL25 _ ⟨[(0, .int .i64 (i : Nat)), (2, .ptr 0 0 0 1), (3, .ptr 1 0 0 1), (4, .int .i64 (bMany i : Nat)), (5, .sl 3 0 (bMany i) (bMany i)), (7, .int .i64 ((s + 1) : Nat))], [(0, some ⟨.rows 4 [[.int .i64 0, .int .i64 0, .nil (.ints .i64 []), .nil (.ints .i64 [])]], true, 25⟩), (1, some ⟨.rows 4 [[.int .i64 (i : Nat), .int .i64 (bPlain i : Nat), .sl 4 0 (bPart i (s + 1) 0).length (bPart i (s + 1) 0).length, .sl 2 0 (bMany i) (bMany i)]], true, 25⟩), (2, some ⟨.ints .i64 (rkL (bMany i) (bPart i (s + 1) 0)), false, 3⟩), (3, some ⟨.ints .i64 (szL i (bMany i)), false, 3⟩), (4, some ⟨.ints .i64 (eI (bPart i (s + 1) 0)), false, 3⟩)], 5⟩ _ ?_ ⟨(s + 1), by (first | omega | (simp only [IntKind.wrap_i64] at *; omega) | (simp_all; done) | (simp_all; omega)), rfl, rfl⟩ ⟨by simp [getT, PV.lo, lo1, hsw], by simp [getH, Blk.lo, Cells.lo, lo1, hpe], rfl, by omega⟩
    omega
  ·clear hC28
   try simp at hc28
   refine swp_exit ?_
   simp [thn, inBlk]
   refine hK23 _ ?_; clear hK23
   refine swp_seq fun K41 hK41 => ?_
   refine swp_region ty_ok ?_
   try simp (maxSteps := 1000000) [bookV]
   repeat' (first | apply And.intro | intro _)
   any_goals (first | (refine hK41 _ ?_; clear hK41) | (first | omega | (simp only [IntKind.wrap_i64] at *; omega) | (simp_all; done) | (simp_all; omega)))
   refine swp_ret ?_
   simp [fnPost, Try.results116, resP, tupOf]
   have hfin : bPart i s 0 = bEnt i := by rw [bPart_zero]; exact part_end hE (by omega) (by rw [← bPart_zero]; omega)
   rw [hfin]
   refine ⟨eI_len _, rkL_len _ _, ?_⟩
   unfold rkL bookV bE bR
   rw [hE.el, hE.rk]
   rfl

end Go.Proofs.Ytgheplondkoedaa

