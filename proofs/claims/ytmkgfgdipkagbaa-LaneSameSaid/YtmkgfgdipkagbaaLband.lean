import Derived.Test.YtmkgfgdipkagbaaWf
import Derived.Test.YtmkgfgdipkagbaaTyl
namespace Go.Proofs.Ytmkgfgdipkagbaa
set_option linter.unusedVariables false
set_option linter.unusedSimpArgs false
set_option maxRecDepth 10000
open Go Go.Pv

theorem mixed : Try.prog.follows .mixedOrders = true := by kernel_rfl
def kO (rate : Int) : Int := IntKind.i64.wrap (3 + IntKind.i64.wrap ((IntKind.i64.wrap (11 - rate)).tdiv 2))
def nxO (k by_ lines at_ : Int) : Int := min lines (IntKind.i64.wrap (IntKind.i64.wrap (at_ + 4) + IntKind.i64.wrap (4 * IntKind.i64.wrap ((IntKind.i64.wrap (at_ * k)).tdiv by_))))
def offL (k by_ lines : Int) : Nat → Int → List Int
 | 0, a => [a]
 | f + 1, a => a :: (if a < lines then offL k by_ lines f (nxO k by_ lines a) else [])
def byO (short : Bool) : Int := if short then 64 else 256
def liO (short : Bool) : Int := if short then 32 else 256
def offs (rate : Int) (short : Bool) : List Int := offL (kO rate) (byO short) (liO short) 64 0
def MB (rate : Int) (short : Bool) : Int := if rate < 0 ∨ 11 < rate then 0 else ((offs rate short).length : Int) - 1
def eA (rate : Int) : Int := if rate < 0 ∨ 11 < rate then 2 else 0

def wiO (rate : Int) (short : Bool) (at_ : Int) : Int := min (IntKind.i64.wrap (4 + IntKind.i64.wrap (4 * IntKind.i64.wrap ((IntKind.i64.wrap (at_ * kO rate)).tdiv (byO short))))) (IntKind.i64.wrap (liO short - at_))
attribute [local simp] runs gd step1 need evu un opnds opv ev cst cst1 cstL getT getH putT onL nxt argT cellsOf PV.one thn inBlk jmp fldP ldP ldC live Cells.len Cells.get Cells.w sug ldv bin eqF eq1 ops2 sh2 binv Tk.agg stC apC rdS apS cpC cpS mvL zp argsP idx fillP toInts chunks mkC ixS ixA oidx slP sl0 slA optL List.append mxF bltn frzA frz frzL frz1 pur1 Cells.pur PV.scal scal1 runD rdO PV.ids id1 zids ety Eff.on cnd minb and1b ifmax ifmin mxv sugI strv w0 w1 w2 wm1
theorem equal_ok (xs ys : List Int) (hx : xs.length ≤ 140737488355328) : PCall Try.prog 41 [.ro (.ints .i64 xs), .ro (.ints .i64 ys)] (.bool (decide (xs = ys))) := by
 refine pcall_body ty_ok Try.func41 rfl (by rfl) (by simp) ?_
 rw [Try.ntmps41]
 refine swp_seq fun K1 hK1 => ?_
 refine swp_region ty_ok ?_
 try simp (maxSteps := 1000000)
 repeat' (first | apply And.intro | intro _)
 any_goals (first | (refine hK1 _ ?_; clear hK1) | omega | (simp_all <;> omega))
 refine swp_seq fun K2 hK2 => ?_
 refine swp_seq fun K3 hK3 => ?_
 refine swp_region ty_ok ?_
 try simp (maxSteps := 1000000)
 repeat' (first | apply And.intro | intro _)
 any_goals (first | (refine hK3 _ ?_; clear hK3) | omega | (simp_all <;> omega))
 refine swp_if fun C4 hC4 => ?_
 try simp (maxSteps := 1000000)
 refine hC4 _ (fun hc4 => ?_) (fun hc4 => ?_)
 ·clear hC4
  try simp at hc4
  refine swp_seq fun K5 hK5 => ?_
  refine swp_region ty_ok ?_
  try simp (maxSteps := 1000000)
  repeat' (first | apply And.intro | intro _)
  any_goals (first | (refine hK5 _ ?_; clear hK5) | omega | (simp_all <;> omega))
  refine swp_ret ?_
  simp [fnPost, Try.results41, resP, tupOf]
  rintro rfl; omega
 ·clear hC4
  try simp at hc4
  refine swp_skip ?_
  try simp only [thn, inBlk]
  refine hK2 _ ?_; clear hK2
  refine swp_seq fun K6 hK6 => ?_
  refine swp_seq fun K7 hK7 => ?_
  refine swp_region ty_ok ?_
  try simp (maxSteps := 1000000)
  repeat' (first | apply And.intro | intro _)
  any_goals (first | (refine hK7 _ ?_; clear hK7) | omega | (simp_all <;> omega))
  refine swp_block ?_
  refine swp_loop 0 (fun m_ s_ => ∃ (i : Nat), (i ≤ xs.length) ∧ (xs.length = ys.length) ∧ (xs.take i = ys.take i) ∧ s_ = ⟨[(0, .ro (.ints .i64 xs)), (1, .ro (.ints .i64 ys)), (12, .int .i64 (xs.length : Nat)), (13, .int .i64 (i : Nat))], [], 0⟩ ∧ m_ = xs.length - i) _ ⟨[(0, .ro (.ints .i64 xs)), (1, .ro (.ints .i64 ys)), (12, .int .i64 (xs.length : Nat)), (13, .int .i64 (0 : Nat))], [], 0⟩ ⟨by simp [getT, PV.lo, lo1], by simp [getH, Blk.lo, Cells.lo, lo1], rfl, by omega⟩ ⟨(0), by (first | omega | (simp_all <;> omega)), by (first | omega | (simp_all <;> omega)), by (first | omega | (simp_all <;> omega)), rfl, rfl⟩ ?_
  rintro m_ s_ ⟨i, hL8_0, hL8_1, hL8_2, rfl, rfl⟩ KL8 hL8
  have hw : IntKind.i64.wrap ((i : Int) + 1) = (((i + 1 : Nat)) : Int) := by rw [IntKind.wrap_i64]; omega
  refine swp_seq fun K9 hK9 => ?_
  refine swp_region ty_ok ?_
  try simp (maxSteps := 1000000)
  repeat' (first | apply And.intro | intro _)
  any_goals (first | (refine hK9 _ ?_; clear hK9) | omega | (simp_all <;> omega))
  refine swp_seq fun K10 hK10 => ?_
  refine swp_if fun C11 hC11 => ?_
  try simp (maxSteps := 1000000)
  refine hC11 _ (fun hc11 => ?_) (fun hc11 => ?_)
  ·clear hC11
   try simp at hc11
   refine swp_skip ?_
   try simp only [thn, inBlk]
   refine hK10 _ ?_; clear hK10
   refine swp_seq fun K12 hK12 => ?_
   refine swp_block ?_
   refine swp_seq fun K13 hK13 => ?_
   refine swp_region ty_ok ?_
   try simp (maxSteps := 1000000)
   repeat' (first | apply And.intro | intro _)
   any_goals (first | (refine hK13 _ ?_; clear hK13) | omega | (simp_all <;> omega))
   refine swp_seq fun K14 hK14 => ?_
   refine swp_draw ty_ok mixed (ms := [0, 0, 3, 7, 0, 0, 48, 112, 255]) (by kernel_rfl) ?_
   try simp (maxSteps := 1000000)
   repeat' (first | apply And.intro | intro _)
   any_goals (first | kernel_rfl | (refine hK14 _ ?_; clear hK14) | omega | (simp_all <;> omega))
   refine swp_if fun C16 hC16 => ?_
   try simp (maxSteps := 1000000)
   refine hC16 _ (fun hc16 => ?_) (fun hc16 => ?_)
   ·clear hC16
    try simp at hc16
    refine swp_seq fun K17 hK17 => ?_
    refine swp_region ty_ok ?_
    try simp (maxSteps := 1000000)
    repeat' (first | apply And.intro | intro _)
    any_goals (first | (refine hK17 _ ?_; clear hK17) | omega | (simp_all <;> omega))
    refine swp_ret ?_
    simp [fnPost, Try.results41, resP, tupOf]
    rintro rfl; simp_all
   ·clear hC16
    try simp at hc16
    refine swp_skip ?_
    try simp only [thn, inBlk]
    refine hK12 _ ?_; clear hK12
    refine swp_region ty_ok ?_
    try simp (maxSteps := 1000000)
    repeat' apply And.intro
    any_goals (try omega)
    refine hL8 _ ⟨[(0, .ro (.ints .i64 xs)), (1, .ro (.ints .i64 ys)), (12, .int .i64 (xs.length : Nat)), (13, .int .i64 ((i + 1) : Nat))], [], 0⟩ _ ?_ ⟨(i + 1), by omega, by omega, by exact take_next (by omega) (by omega) (by assumption) (by assumption), rfl, rfl⟩ ⟨by simp [getT, PV.lo, lo1, hw], by simp [getH, Blk.lo, Cells.lo, lo1], rfl, by omega⟩
    omega
  ·clear hC11
   try simp at hc11
   refine swp_exit ?_
   simp [thn, inBlk]
   refine hK6 _ ?_; clear hK6
   refine swp_seq fun K18 hK18 => ?_
   refine swp_region ty_ok ?_
   try simp (maxSteps := 1000000)
   repeat' (first | apply And.intro | intro _)
   any_goals (first | (refine hK18 _ ?_; clear hK18) | omega | (simp_all <;> omega))
   refine swp_ret ?_
   simp [fnPost, Try.results41, resP, tupOf]
   have hh := (by assumption : List.take _ xs = _); rw [List.take_of_length_le (by omega), List.take_of_length_le (by omega)] at hh; exact hh

theorem reedpiperef06_Ints_ok (xs ys : List Int) (hx : xs.length ≤ 140737488355328) : PCall Try.prog 50 [.ro (.ints .i64 xs), .ro (.ints .i64 ys)] (.bool (decide (xs = ys))) := by
 refine pcall_body ty_ok Try.func50 rfl (by rfl) (by simp) ?_
 rw [Try.ntmps50]
 refine swp_seq fun K1 hK1 => ?_
 refine swp_region ty_ok ?_
 try simp (maxSteps := 1000000)
 repeat' (first | apply And.intro | intro _)
 any_goals (first | (refine hK1 _ ?_; clear hK1) | omega | (simp_all <;> omega))
 refine swp_seq fun K2 hK2 => ?_
 refine swp_seq fun K3 hK3 => ?_
 refine swp_region ty_ok ?_
 try simp (maxSteps := 1000000)
 repeat' (first | apply And.intro | intro _)
 any_goals (first | (refine hK3 _ ?_; clear hK3) | omega | (simp_all <;> omega))
 refine swp_if fun C4 hC4 => ?_
 try simp (maxSteps := 1000000)
 refine hC4 _ (fun hc4 => ?_) (fun hc4 => ?_)
 ·clear hC4
  try simp at hc4
  refine swp_seq fun K5 hK5 => ?_
  refine swp_region ty_ok ?_
  try simp (maxSteps := 1000000)
  repeat' (first | apply And.intro | intro _)
  any_goals (first | (refine hK5 _ ?_; clear hK5) | omega | (simp_all <;> omega))
  refine swp_ret ?_
  simp [fnPost, Try.results50, resP, tupOf]
  rintro rfl; omega
 ·clear hC4
  try simp at hc4
  refine swp_skip ?_
  try simp only [thn, inBlk]
  refine hK2 _ ?_; clear hK2
  refine swp_seq fun K6 hK6 => ?_
  refine swp_seq fun K7 hK7 => ?_
  refine swp_region ty_ok ?_
  try simp (maxSteps := 1000000)
  repeat' (first | apply And.intro | intro _)
  any_goals (first | (refine hK7 _ ?_; clear hK7) | omega | (simp_all <;> omega))
  refine swp_block ?_
  refine swp_loop 0 (fun m_ s_ => ∃ (i : Nat), (i ≤ xs.length) ∧ (xs.length = ys.length) ∧ (xs.take i = ys.take i) ∧ s_ = ⟨[(0, .ro (.ints .i64 xs)), (1, .ro (.ints .i64 ys)), (5, .int .i64 (i : Nat))], [], 0⟩ ∧ m_ = xs.length - i) _ ⟨[(0, .ro (.ints .i64 xs)), (1, .ro (.ints .i64 ys)), (5, .int .i64 (0 : Nat))], [], 0⟩ ⟨by simp [getT, PV.lo, lo1], by simp [getH, Blk.lo, Cells.lo, lo1], rfl, by omega⟩ ⟨(0), by (first | omega | (simp_all <;> omega)), by (first | omega | (simp_all <;> omega)), by (first | omega | (simp_all <;> omega)), rfl, rfl⟩ ?_
  rintro m_ s_ ⟨i, hL8_0, hL8_1, hL8_2, rfl, rfl⟩ KL8 hL8
  have hw : IntKind.i64.wrap ((i : Int) + 1) = (((i + 1 : Nat)) : Int) := by rw [IntKind.wrap_i64]; omega
  refine swp_seq fun K9 hK9 => ?_
  refine swp_seq fun K10 hK10 => ?_
  refine swp_region ty_ok ?_
  try simp (maxSteps := 1000000)
  repeat' (first | apply And.intro | intro _)
  any_goals (first | (refine hK10 _ ?_; clear hK10) | omega | (simp_all <;> omega))
  refine swp_if fun C11 hC11 => ?_
  try simp (maxSteps := 1000000)
  refine hC11 _ (fun hc11 => ?_) (fun hc11 => ?_)
  ·clear hC11
   try simp at hc11
   refine swp_skip ?_
   try simp only [thn, inBlk]
   refine hK9 _ ?_; clear hK9
   refine swp_seq fun K12 hK12 => ?_
   refine swp_block ?_
   refine swp_seq fun K13 hK13 => ?_
   refine swp_draw ty_ok mixed (ms := [0, 0, 3, 7, 0, 0, 48, 112, 255]) (by kernel_rfl) ?_
   try simp (maxSteps := 1000000)
   repeat' (first | apply And.intro | intro _)
   any_goals (first | kernel_rfl | (refine hK13 _ ?_; clear hK13) | omega | (simp_all <;> omega))
   refine swp_if fun C15 hC15 => ?_
   try simp (maxSteps := 1000000)
   refine hC15 _ (fun hc15 => ?_) (fun hc15 => ?_)
   ·clear hC15
    try simp at hc15
    refine swp_seq fun K16 hK16 => ?_
    refine swp_region ty_ok ?_
    try simp (maxSteps := 1000000)
    repeat' (first | apply And.intro | intro _)
    any_goals (first | (refine hK16 _ ?_; clear hK16) | omega | (simp_all <;> omega))
    refine swp_ret ?_
    simp [fnPost, Try.results50, resP, tupOf]
    rintro rfl; simp_all
   ·clear hC15
    try simp at hc15
    refine swp_skip ?_
    try simp only [thn, inBlk]
    refine hK12 _ ?_; clear hK12
    refine swp_region ty_ok ?_
    try simp (maxSteps := 1000000)
    repeat' apply And.intro
    any_goals (try omega)
    refine hL8 _ ⟨[(0, .ro (.ints .i64 xs)), (1, .ro (.ints .i64 ys)), (5, .int .i64 ((i + 1) : Nat))], [], 0⟩ _ ?_ ⟨(i + 1), by omega, by omega, by exact take_next (by omega) (by omega) (by assumption) (by assumption), rfl, rfl⟩ ⟨by simp [getT, PV.lo, lo1, hw], by simp [getH, Blk.lo, Cells.lo, lo1], rfl, by omega⟩
    omega
  ·clear hC11
   try simp at hc11
   refine swp_exit ?_
   simp [thn, inBlk]
   refine hK6 _ ?_; clear hK6
   refine swp_seq fun K17 hK17 => ?_
   refine swp_region ty_ok ?_
   try simp (maxSteps := 1000000)
   repeat' (first | apply And.intro | intro _)
   any_goals (first | (refine hK17 _ ?_; clear hK17) | omega | (simp_all <;> omega))
   refine swp_ret ?_
   simp [fnPost, Try.results50, resP, tupOf]
   have hh := (by assumption : List.take _ xs = _); rw [List.take_of_length_le (by omega), List.take_of_length_le (by omega)] at hh; exact hh

end Go.Proofs.Ytmkgfgdipkagbaa

