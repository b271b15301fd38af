import Derived.Test.YtgheplondkoedaaWf
import Derived.Test.YtgheplondkoedaaTyh
import Derived.Test.YtgheplondkoedaaBkq
import Derived.Test.YtgheplondkoedaaHsrt
import Derived.Test.YtgheplondkoedaaHbk
import Derived.Test.YtgheplondkoedaaHbk2
import Derived.Test.YtgheplondkoedaaHbk3
import Derived.Test.YtgheplondkoedaaHbits
import Derived.Test.YtgheplondkoedaaHrd
import Derived.Test.YtgheplondkoedaaHrdq
import Derived.Test.YtgheplondkoedaaHbits2
import Derived.Test.YtgheplondkoedaaHbk4
namespace Go.Proofs.Ytgheplondkoedaa
set_option linter.unusedVariables false
set_option linter.unusedSimpArgs false
set_option maxRecDepth 10000
open Go Go.Pv

theorem take_next {xs ys : List Int} {i : Nat} (h1 : i < xs.length) (h2 : i < ys.length) (h : xs.take i = ys.take i) (he : xs[i]?.getD 0 = ys[i]?.getD 0) : xs.take (i + 1) = ys.take (i + 1) := by
 rw [List.take_succ_eq_append_getElem h1, List.take_succ_eq_append_getElem h2, h]
 rw [List.getElem?_eq_getElem h1, List.getElem?_eq_getElem h2] at he
 simp at he
 rw [he]
def eI (es : List Nat) : List Int := es.map Int.ofNat
def rkL (N : Nat) (es : List Nat) : List Int := rkP N es es.length
def bPart (i s t : Nat) : List Nat := bUpto i s ++ bAt i s t
def szL (i n : Nat) : List Int := (List.range n).map (fun e => (bSz i e : Int)) ++ List.replicate (bMany i - n) 0
attribute [local simp] runs gd step1 need evu un opnds opv ev cst cst1 cstL getT getH putT onL nxt argT cellsOf PV.one thn inBlk jmp fldP ldP ldC live Cells.len Cells.get Cells.w sug ldv bin eqF eq1 ops2 sh2 binv Tk.agg stC apC rdS apS cpC cpS mvL zp argsP idx fillP toInts chunks mkC ixS ixA oidx slP sl0 slA optL List.append mxF bltn frzA frz frzL frz1 pur1 Cells.pur PV.scal scal1 runD rdO PV.ids id1 zids ety Eff.on cnd minb and1b ifmax ifmin mxv sugI strv w0 w1 w2 wm1
theorem reedpiperef06_Ints_ok (xs ys : List Int) (hx : xs.length ≤ 140737488355328) : PCall Try.prog 23 [.ro (.ints .i64 xs), .ro (.ints .i64 ys)] (.bool (decide (xs = ys))) := by
 refine pcall_body ty_ok Try.func23 rfl (by rfl) (by simp) ?_
 rw [Try.ntmps23]
 refine swp_seq fun K1 hK1 => ?_
 refine swp_region ty_ok ?_
 try simp (maxSteps := 1000000)
 repeat' (first | apply And.intro | intro _)
 any_goals (first | (refine hK1 _ ?_; clear hK1) | omega | (simp_all <;> omega))
 refine swp_seq fun K2 hK2 => ?_
 refine swp_seq fun K3 hK3 => ?_
 refine swp_region ty_ok ?_
 try simp (maxSteps := 1000000)
 repeat' (first | apply And.intro | intro _)
 any_goals (first | (refine hK3 _ ?_; clear hK3) | omega | (simp_all <;> omega))
 refine swp_if fun C4 hC4 => ?_
 try simp (maxSteps := 1000000)
 refine hC4 _ (fun hc4 => ?_) (fun hc4 => ?_)
 ·clear hC4
  try simp at hc4
  refine swp_seq fun K5 hK5 => ?_
  refine swp_region ty_ok ?_
  try simp (maxSteps := 1000000)
  repeat' (first | apply And.intro | intro _)
  any_goals (first | (refine hK5 _ ?_; clear hK5) | omega | (simp_all <;> omega))
  refine swp_ret ?_
  simp [fnPost, Try.results23, resP, tupOf]
  rintro rfl; omega
 ·clear hC4
  try simp at hc4
  refine swp_skip ?_
  try simp only [thn, inBlk]
  refine hK2 _ ?_; clear hK2
  refine swp_seq fun K6 hK6 => ?_
  refine swp_seq fun K7 hK7 => ?_
  refine swp_region ty_ok ?_
  try simp (maxSteps := 1000000)
  repeat' (first | apply And.intro | intro _)
  any_goals (first | (refine hK7 _ ?_; clear hK7) | omega | (simp_all <;> omega))
  refine swp_block ?_
  refine swp_loop 0 (fun m_ s_ => ∃ (i : Nat), (i ≤ xs.length) ∧ (xs.length = ys.length) ∧ (xs.take i = ys.take i) ∧ s_ = ⟨[(0, .ro (.ints .i64 xs)), (1, .ro (.ints .i64 ys)), (5, .int .i64 (i : Nat))], [], 0⟩ ∧ m_ = xs.length - i) _ ⟨[(0, .ro (.ints .i64 xs)), (1, .ro (.ints .i64 ys)), (5, .int .i64 (0 : Nat))], [], 0⟩ ⟨by simp [getT, PV.lo, lo1], by simp [getH, Blk.lo, Cells.lo, lo1], rfl, by omega⟩ ⟨(0), by (first | omega | (simp_all <;> omega)), by (first | omega | (simp_all <;> omega)), by (first | omega | (simp_all <;> omega)), rfl, rfl⟩ ?_
  rintro m_ s_ ⟨i, hL8_0, hL8_1, hL8_2, rfl, rfl⟩ KL8 hL8
  have hw : IntKind.i64.wrap ((i : Int) + 1) = (((i + 1 : Nat)) : Int) := by rw [IntKind.wrap_i64]; omega
  refine swp_seq fun K9 hK9 => ?_
  refine swp_seq fun K10 hK10 => ?_
  refine swp_region ty_ok ?_
  try simp (maxSteps := 1000000)
  repeat' (first | apply And.intro | intro _)
  any_goals (first | (refine hK10 _ ?_; clear hK10) | omega | (simp_all <;> omega))
  refine swp_if fun C11 hC11 => ?_
  try simp (maxSteps := 1000000)
  refine hC11 _ (fun hc11 => ?_) (fun hc11 => ?_)
  ·clear hC11
   try simp at hc11
   refine swp_skip ?_
   try simp only [thn, inBlk]
   refine hK9 _ ?_; clear hK9
   refine swp_seq fun K12 hK12 => ?_
   refine swp_block ?_
   refine swp_seq fun K13 hK13 => ?_
   refine swp_draw ty_ok mixed (ms := [0, 0, 3, 7, 0, 0, 48, 112, 255]) (by kernel_rfl) ?_
   try simp (maxSteps := 1000000)
   repeat' (first | apply And.intro | intro _)
   any_goals (first | kernel_rfl | (refine hK13 _ ?_; clear hK13) | omega | (simp_all <;> omega))
   refine swp_if fun C15 hC15 => ?_
   try simp (maxSteps := 1000000)
   refine hC15 _ (fun hc15 => ?_) (fun hc15 => ?_)
   ·clear hC15
    try simp at hc15
    refine swp_seq fun K16 hK16 => ?_
    refine swp_region ty_ok ?_
    try simp (maxSteps := 1000000)
    repeat' (first | apply And.intro | intro _)
    any_goals (first | (refine hK16 _ ?_; clear hK16) | omega | (simp_all <;> omega))
    refine swp_ret ?_
    simp [fnPost, Try.results23, resP, tupOf]
    rintro rfl; simp_all
   ·clear hC15
    try simp at hc15
    refine swp_skip ?_
    try simp only [thn, inBlk]
    refine hK12 _ ?_; clear hK12
    refine swp_region ty_ok ?_
    try simp (maxSteps := 1000000)
    repeat' apply And.intro
    any_goals (try omega)
    refine hL8 _ ⟨[(0, .ro (.ints .i64 xs)), (1, .ro (.ints .i64 ys)), (5, .int .i64 ((i + 1) : Nat))], [], 0⟩ _ ?_ ⟨(i + 1), by omega, by omega, by exact take_next (by omega) (by omega) (by assumption) (by assumption), rfl, rfl⟩ ⟨by simp [getT, PV.lo, lo1, hw], by simp [getH, Blk.lo, Cells.lo, lo1], rfl, by omega⟩
    omega
  ·clear hC11
   try simp at hc11
   refine swp_exit ?_
   simp [thn, inBlk]
   refine hK6 _ ?_; clear hK6
   refine swp_seq fun K17 hK17 => ?_
   refine swp_region ty_ok ?_
   try simp (maxSteps := 1000000)
   repeat' (first | apply And.intro | intro _)
   any_goals (first | (refine hK17 _ ?_; clear hK17) | omega | (simp_all <;> omega))
   refine swp_ret ?_
   simp [fnPost, Try.results23, resP, tupOf]
   have hh := (by assumption : List.take _ xs = _); rw [List.take_of_length_le (by omega), List.take_of_length_le (by omega)] at hh; exact hh

end Go.Proofs.Ytgheplondkoedaa

