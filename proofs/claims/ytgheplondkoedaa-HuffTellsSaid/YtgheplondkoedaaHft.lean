import Derived.Test.YtgheplondkoedaaWf
import Derived.Test.YtgheplondkoedaaTyh
import Derived.Test.YtgheplondkoedaaBkq
import Derived.Test.YtgheplondkoedaaHsrt
import Derived.Test.YtgheplondkoedaaHbk
import Derived.Test.YtgheplondkoedaaHbk2
import Derived.Test.YtgheplondkoedaaHbk3
import Derived.Test.YtgheplondkoedaaHbits
import Derived.Test.YtgheplondkoedaaHrd
import Derived.Test.YtgheplondkoedaaHrdq
import Derived.Test.YtgheplondkoedaaHbits2
import Derived.Test.YtgheplondkoedaaHbk4
import Derived.Test.YtgheplondkoedaaHbk5
import Derived.Test.YtgheplondkoedaaHbk6
import Derived.Test.YtgheplondkoedaaHbk8
import Derived.Test.YtgheplondkoedaaHbk9
import Derived.Test.YtgheplondkoedaaHgrow
import Derived.Test.YtgheplondkoedaaHst
import Derived.Test.YtgheplondkoedaaHrep
import Derived.Test.YtgheplondkoedaaHputh
namespace Go.Proofs.Ytgheplondkoedaa
set_option linter.unusedVariables false
set_option linter.unusedSimpArgs false
set_option maxRecDepth 10000
open Go Go.Pv

open Go.RowKit
def hMost (i : Nat) : Int := [0, 1, 1, 2, 2, 4, 4, 7, 7, 12, 12, 8191].getD i 0
def hSig (i : Nat) : Bool := decide (i < 3 ∨ i = 5 ∨ i = 6)
structure HkF (i : Nat) : Prop where
 m : 1 ≤ hMost i ∧ hMost i ≤ 8191
 s : hSig i = true → bLow i = -hMost i ∧ bHigh i = hMost i ∧ i ≠ 11
 u : hSig i = false → bLow i = 0 ∧ (i ≠ 11 → bHigh i = hMost i ∧ hMost i ≤ 12) ∧ (i = 11 → bHigh i = 16)
 d : bDim i = (if i < 5 then 4 else 2)
theorem hkF {i : Nat} (h1 : 1 ≤ i) (h2 : i ≤ 11) : HkF i := by
 have : ∀ j : Fin 12, 1 ≤ j.val → (1 ≤ hMost j.val ∧ hMost j.val ≤ 8191) ∧ (hSig j.val = true → bLow j.val = -hMost j.val ∧ bHigh j.val = hMost j.val ∧ j.val ≠ 11) ∧ (hSig j.val = false → bLow j.val = 0 ∧ (j.val ≠ 11 → bHigh j.val = hMost j.val ∧ hMost j.val ≤ 12) ∧ (j.val = 11 → bHigh j.val = 16)) ∧ bDim j.val = (if j.val < 5 then 4 else 2) := by decide
 obtain ⟨a, b, c, d⟩ := this ⟨i, by omega⟩ h1
 exact ⟨a, b, c, d⟩
def fitV (i : Nat) (v : Int) : Bool := decide (-hMost i ≤ v ∧ v ≤ hMost i)
def hFit (i : Nat) (vs : List Int) : Bool := vs.all (fitV i)
def bad (mo v : Int) : Bool := decide (mo < v) || decide (v < -mo)
def fbL (mo : Int) : List Int → Nat → Int
 | [], _ => -1
 | v :: r, k => if bad mo v = true then k else fbL mo r (k + 1)
theorem fbL_any (mo : Int) : ∀ (l : List Int) (k : Nat), decide (0 ≤ fbL mo l k) = l.any (bad mo)
 | [], _ => rfl
 | v :: r, k => by
  rw [fbL, List.any_cons]
  cases h : bad mo v with
  | true => rw [if_pos rfl]; simp
  | false => rw [if_neg (by simp), fbL_any mo r (k + 1)]; rfl
theorem fbL_at {mo : Int} {l : List Int} {j : Nat} (h : j < l.length) (k : Nat) : fbL mo (l.drop j) k = if bad mo (l[j]?.getD 0) = true then (k : Int) else fbL mo (l.drop (j + 1)) (k + 1) := by
 rw [List.drop_eq_getElem_cons h, fbL, List.getElem?_eq_getElem h]
 rfl
theorem bad_fit {i : Nat} (v : Int) : bad (hMost i) v = !fitV i v := by
 unfold bad fitV
 rw [Bool.eq_iff_iff]
 simp
 omega
theorem any_fit {i : Nat} (vs : List Int) : (!vs.any (bad (hMost i))) = hFit i vs := by
 unfold hFit
 induction vs with
 | nil => rfl
 | cons v r ih => rw [List.any_cons, List.all_cons, ← ih, bad_fit, Bool.not_or, Bool.not_not]
def greatL : List PV := [.int .i64 0, .int .i64 1, .int .i64 1, .int .i64 2, .int .i64 2, .int .i64 4, .int .i64 4, .int .i64 7, .int .i64 7, .int .i64 12, .int .i64 12, .int .i64 8191, .int .i64 0]
theorem greatL_at {i : Nat} (h : i ≤ 11) : greatL[i]? = some (.int .i64 (hMost i)) := by
 have : ∀ j, j ≤ 11 → greatL[j]? = some (.int .i64 (hMost j))
  | 0, _ => rfl
  | 1, _ => rfl
  | 2, _ => rfl
  | 3, _ => rfl
  | 4, _ => rfl
  | 5, _ => rfl
  | 6, _ => rfl
  | 7, _ => rfl
  | 8, _ => rfl
  | 9, _ => rfl
  | 10, _ => rfl
  | 11, _ => rfl
  | n + 12, h => absurd h (by omega)
 exact this i h
theorem greatL_len : greatL.length = 13 := rfl

attribute [local simp] runs gd step1 need evu un opnds opv ev cst cst1 cstL getT getH putT onL nxt argT cellsOf PV.one thn inBlk jmp fldP ldP ldC live Cells.len Cells.get Cells.w sug ldv bin eqF eq1 ops2 sh2 binv Tk.agg stC apC rdS apS cpC cpS mvL zp argsP idx fillP toInts chunks mkC ixS ixA oidx slP sl0 slA optL List.append mxF bltn frzA frz frzL frz1 pur1 Cells.pur PV.scal scal1 runD rdO PV.ids id1 zids ety Eff.on cnd minb and1b ifmax ifmin mxv sugI strv w0 w1 w2 wm1
theorem signed_ok (i : Nat) : PCall Try.prog 43 [.int .i64 (i : Nat)] (.bool (hSig i)) := by
 refine pcall_body ty_ok Try.func43 rfl (by rfl) (by simp) ?_
 rw [Try.ntmps43]
 refine swp_seq fun K1 hK1 => ?_
 refine swp_region ty_ok ?_
 try simp (maxSteps := 1000000)
 repeat' (first | apply And.intro | intro _)
 any_goals (first | (refine hK1 _ ?_; clear hK1) | (first | omega | (simp only [IntKind.wrap_i64] at *; omega) | (simp_all; done) | (simp_all; omega)))
 refine swp_seq fun K2 hK2 => ?_
 refine swp_region ty_ok ?_
 try simp (maxSteps := 1000000)
 repeat' (first | apply And.intro | intro _)
 any_goals (first | (refine hK2 _ ?_; clear hK2) | (first | omega | (simp only [IntKind.wrap_i64] at *; omega) | (simp_all; done) | (simp_all; omega)))
 refine swp_ret ?_
 simp [fnPost, Try.results43, resP, tupOf]
 unfold hSig
 rw [Bool.eq_iff_iff]
 simp
 omega

theorem hsize_ok (v : Int) (hv : -9000 ≤ v ∧ v ≤ 9000) : PCall Try.prog 47 [.int .i64 v] (.int .i64 (v.natAbs : Nat)) := by
 have hneg : IntKind.i64.wrap (-v) = -v := w64 (by omega)
 have hmx := max_abs v
 refine pcall_body ty_ok Try.func47 rfl (by rfl) (by simp) ?_
 rw [Try.ntmps47]
 refine swp_seq fun K1 hK1 => ?_
 refine swp_region ty_ok ?_
 try simp (maxSteps := 1000000) [hneg, hmx]
 repeat' (first | apply And.intro | intro _)
 any_goals (first | (refine hK1 _ ?_; clear hK1) | (first | omega | (simp only [IntKind.wrap_i64] at *; omega) | (simp_all; done) | (simp_all; omega)))
 refine swp_seq fun K2 hK2 => ?_
 refine swp_region ty_ok ?_
 try simp (maxSteps := 1000000) [hneg, hmx]
 repeat' (first | apply And.intro | intro _)
 any_goals (first | (refine hK2 _ ?_; clear hK2) | (first | omega | (simp only [IntKind.wrap_i64] at *; omega) | (simp_all; done) | (simp_all; omega)))
 refine swp_ret ?_
 simp [fnPost, Try.results47, resP, tupOf]

theorem hdim_ok (i : Nat) (h1 : 1 ≤ i) (h2 : i ≤ 11)  : PCall Try.prog 60 [.int .i64 (i : Nat)] (.int .i64 (bDim i : Nat)) := by
 have hd := (hkF h1 h2).d
 refine pcall_body ty_ok Try.func60 rfl (by rfl) (by simp) ?_
 rw [Try.ntmps60]
 refine swp_seq fun K1 hK1 => ?_
 refine swp_region ty_ok ?_
 try simp (maxSteps := 1000000)
 repeat' (first | apply And.intro | intro _)
 any_goals (first | (refine hK1 _ ?_; clear hK1) | (first | omega | (simp only [IntKind.wrap_i64] at *; omega) | (simp_all; done) | (simp_all; omega)))
 refine swp_seq fun K2 hK2 => ?_
 refine swp_seq fun K3 hK3 => ?_
 refine swp_region ty_ok ?_
 try simp (maxSteps := 1000000)
 repeat' (first | apply And.intro | intro _)
 any_goals (first | (refine hK3 _ ?_; clear hK3) | (first | omega | (simp only [IntKind.wrap_i64] at *; omega) | (simp_all; done) | (simp_all; omega)))
 refine swp_if fun C4 hC4 => ?_
 try simp (maxSteps := 1000000)
 refine hC4 _ (fun hc4 => ?_) (fun hc4 => ?_)
 ·clear hC4
  try simp at hc4
  refine swp_seq fun K5 hK5 => ?_
  refine swp_region ty_ok ?_
  try simp (maxSteps := 1000000)
  repeat' (first | apply And.intro | intro _)
  any_goals (first | (refine hK5 _ ?_; clear hK5) | (first | omega | (simp only [IntKind.wrap_i64] at *; omega) | (simp_all; done) | (simp_all; omega)))
  refine swp_ret ?_
  simp [fnPost, Try.results60, resP, tupOf]
  rw [hd]
  first | rw [if_pos (by have h := hc4; omega)] | rw [if_neg (by have h := hc4; omega)]
  rfl
 ·clear hC4
  try simp at hc4
  refine swp_skip ?_
  try simp only [thn, inBlk]
  refine hK2 _ ?_; clear hK2
  refine swp_seq fun K6 hK6 => ?_
  refine swp_region ty_ok ?_
  try simp (maxSteps := 1000000)
  repeat' (first | apply And.intro | intro _)
  any_goals (first | (refine hK6 _ ?_; clear hK6) | (first | omega | (simp only [IntKind.wrap_i64] at *; omega) | (simp_all; done) | (simp_all; omega)))
  refine swp_ret ?_
  simp [fnPost, Try.results60, resP, tupOf]
  rw [hd]
  first | rw [if_pos (by have h := hc4; omega)] | rw [if_neg (by have h := hc4; omega)]
  rfl

theorem great_h  : PCall Try.prog 61 [] (.agg greatL) := by
 refine pcall_body ty_ok Try.func61 rfl (by rfl) (by simp) ?_
 rw [Try.ntmps61]
 refine swp_seq fun K1 hK1 => ?_
 refine swp_region ty_ok ?_
 try simp (maxSteps := 1000000) [greatL, List.replicate_succ]
 repeat' (first | apply And.intro | intro _)
 any_goals (first | (refine hK1 _ ?_; clear hK1) | (first | omega | (simp only [IntKind.wrap_i64] at *; omega) | (simp_all; done) | (simp_all; omega)))
 refine swp_seq fun K2 hK2 => ?_
 refine swp_region ty_ok ?_
 try simp (maxSteps := 1000000) [greatL, List.replicate_succ]
 repeat' (first | apply And.intro | intro _)
 any_goals (first | (refine hK2 _ ?_; clear hK2) | (first | omega | (simp only [IntKind.wrap_i64] at *; omega) | (simp_all; done) | (simp_all; omega)))
 refine swp_ret ?_
 simp [fnPost, Try.results61, resP, tupOf]
 rfl

theorem fits1_ok (mo v : Int) (hmo : 0 ≤ mo ∧ mo ≤ 9000) : PCall Try.prog 63 [.int .i64 v, .rop (.rows 1 [[.int .i64 mo]]) 0 0] (.bool (bad mo v)) := by
 have hneg : IntKind.i64.wrap (-mo) = -mo := w64 (by omega)
 refine pcall_body ty_ok Try.func63 rfl (by rfl) (by simp) ?_
 rw [Try.ntmps63]
 refine swp_seq fun K1 hK1 => ?_
 refine swp_region ty_ok ?_
 try simp (maxSteps := 1000000) [hneg]
 repeat' (first | apply And.intro | intro _)
 any_goals (first | (refine hK1 _ ?_; clear hK1) | (first | omega | (simp only [IntKind.wrap_i64] at *; omega) | (simp_all; done) | (simp_all; omega)))
 refine swp_seq fun K2 hK2 => ?_
 refine swp_region ty_ok ?_
 try simp (maxSteps := 1000000) [hneg]
 repeat' (first | apply And.intro | intro _)
 any_goals (first | (refine hK2 _ ?_; clear hK2) | (first | omega | (simp only [IntKind.wrap_i64] at *; omega) | (simp_all; done) | (simp_all; omega)))
 refine swp_ret ?_
 simp [fnPost, Try.results63, resP, tupOf]
 unfold bad
 first | rfl | (rw [Bool.eq_iff_iff]; simp)

theorem indexf_ok (mo : Int) (hmo : 0 ≤ mo ∧ mo ≤ 9000) (vs : List Int) (hl : vs.length ≤ 1000000) : PCall Try.prog 102 [.ro (.ints .i64 vs), .fn 63 [.rop (.rows 1 [[.int .i64 mo]]) 0 0]] (.int .i64 (fbL mo vs 0)) := by
 refine pcall_body ty_ok Try.func102 rfl (by rfl) (by simp) ?_
 rw [Try.ntmps102]
 refine swp_seq fun K1 hK1 => ?_
 refine swp_region ty_ok ?_
 try simp (maxSteps := 1000000)
 repeat' (first | apply And.intro | intro _)
 any_goals (first | (refine hK1 _ ?_; clear hK1) | (first | omega | (simp only [IntKind.wrap_i64] at *; omega) | (simp_all; done) | (simp_all; omega)))
 refine swp_seq fun K2 hK2 => ?_
 refine swp_seq fun K3 hK3 => ?_
 refine swp_region ty_ok ?_
 try simp (maxSteps := 1000000)
 repeat' (first | apply And.intro | intro _)
 any_goals (first | (refine hK3 _ ?_; clear hK3) | (first | omega | (simp only [IntKind.wrap_i64] at *; omega) | (simp_all; done) | (simp_all; omega)))
 refine swp_block ?_
 refine swp_loop 0 (fun m_ s_ => ∃ (j : Nat), (j ≤ vs.length) ∧ (fbL mo (vs.drop j) j = fbL mo vs 0) ∧ s_ = ⟨[(0, .ro (.ints .i64 vs)), (1, .fn 63 [.rop (.rows 1 [[.int .i64 mo]]) 0 0]), (6, .ro (.ints .i64 vs)), (7, .int .i64 vs.length), (8, .int .i64 (j : Nat))], [], 0⟩ ∧ m_ = vs.length - j) _ ⟨[(0, .ro (.ints .i64 vs)), (1, .fn 63 [.rop (.rows 1 [[.int .i64 mo]]) 0 0]), (6, .ro (.ints .i64 vs)), (7, .int .i64 vs.length), (8, .int .i64 (0 : Nat))], [], 0⟩ ⟨by simp [getT, PV.lo, lo1], by simp [getH, Blk.lo, Cells.lo, lo1], rfl, by omega⟩ ⟨(0), by (first | omega | (simp only [IntKind.wrap_i64] at *; omega) | (simp_all; done) | (simp_all; omega)), by (first | omega | (simp only [IntKind.wrap_i64] at *; omega) | (simp_all; done) | (simp_all; omega)), rfl, rfl⟩ ?_
 rintro m_ s_ ⟨j, hL4_0, hL4_1, rfl, rfl⟩ KL4 hL4
 have hjw := wnext (i := j) (by omega)
 have hI := (by assumption : fbL mo (vs.drop j) j = fbL mo vs 0)
 refine swp_seq fun K5 hK5 => ?_
 refine swp_region ty_ok ?_
 try simp (maxSteps := 1000000)
 repeat' (first | apply And.intro | intro _)
 any_goals (first | (refine hK5 _ ?_; clear hK5) | (first | omega | (simp only [IntKind.wrap_i64] at *; omega) | (simp_all; done) | (simp_all; omega)))
 refine swp_seq fun K6 hK6 => ?_
 refine swp_if fun C7 hC7 => ?_
 try simp (maxSteps := 1000000)
 refine hC7 _ (fun hc7 => ?_) (fun hc7 => ?_)
 ·clear hC7
  try simp at hc7
  refine swp_skip ?_
  try simp only [thn, inBlk]
  refine hK6 _ ?_; clear hK6
  refine swp_seq fun K8 hK8 => ?_
  refine swp_block ?_
  refine swp_seq fun K9 hK9 => ?_
  refine swp_region ty_ok ?_
  try simp (maxSteps := 1000000)
  repeat' (first | apply And.intro | intro _)
  any_goals (first | (refine hK9 _ ?_; clear hK9) | (first | omega | (simp only [IntKind.wrap_i64] at *; omega) | (simp_all; done) | (simp_all; omega)))
  refine swp_seq fun K10 hK10 => ?_
  refine swp_region ty_ok ?_
  refine runs_cut 5 fun R11 hR11 => ?_
  try simp (maxSteps := 1000000) [List.take_succ_cons, List.take_zero, List.drop_succ_cons, List.drop_zero]
  repeat' (first | apply And.intro | intro _)
  any_goals (first | (refine hR11 _ ?_; clear hR11) | (first | omega | (simp only [IntKind.wrap_i64] at *; omega) | (simp_all; done) | (simp_all; omega)))
  try simp (maxSteps := 1000000) [List.take_succ_cons, List.take_zero, List.drop_succ_cons, List.drop_zero]
  refine .inl ⟨_, fits1_ok mo (vs[j]?.getD 0) hmo, ?_⟩
  try simp (maxSteps := 1000000)
  repeat' (first | apply And.intro | intro _)
  any_goals (first | (refine hK10 _ ?_; clear hK10) | (first | omega | (simp only [IntKind.wrap_i64] at *; omega) | (simp_all; done) | (simp_all; omega)))
  refine swp_if fun C12 hC12 => ?_
  try simp (maxSteps := 1000000)
  refine hC12 _ (fun hc12 => ?_) (fun hc12 => ?_)
  ·clear hC12
   try simp at hc12
   refine swp_seq fun K13 hK13 => ?_
   refine swp_region ty_ok ?_
   try simp (maxSteps := 1000000)
   repeat' (first | apply And.intro | intro _)
   any_goals (first | (refine hK13 _ ?_; clear hK13) | (first | omega | (simp only [IntKind.wrap_i64] at *; omega) | (simp_all; done) | (simp_all; omega)))
   refine swp_ret ?_
   simp [fnPost, Try.results102, resP, tupOf]
   rw [← hI, fbL_at (j := j) (by omega), if_pos (by have h := hc12; simpa using h)]
  ·clear hC12
   try simp at hc12
   refine swp_skip ?_
   try simp only [thn, inBlk]
   refine hK8 _ ?_; clear hK8
   refine swp_region ty_ok ?_
   try simp (maxSteps := 1000000)
   repeat' apply And.intro
   any_goals (try omega)
   refine hL4 _ ⟨[(0, .ro (.ints .i64 vs)), (1, .fn 63 [.rop (.rows 1 [[.int .i64 mo]]) 0 0]), (6, .ro (.ints .i64 vs)), (7, .int .i64 vs.length), (8, .int .i64 ((j + 1) : Nat))], [], 0⟩ _ ?_ ⟨(j + 1), by omega, by (rw [← hI, fbL_at (j := j) (by omega), if_neg (by have h := hc12; simpa using h)]), rfl, rfl⟩ ⟨by simp [getT, PV.lo, lo1, hjw], by simp [getH, Blk.lo, Cells.lo, lo1], rfl, by omega⟩
   omega
 ·clear hC7
  try simp at hc7
  refine swp_exit ?_
  simp [thn, inBlk]
  refine hK2 _ ?_; clear hK2
  refine swp_seq fun K14 hK14 => ?_
  refine swp_region ty_ok ?_
  try simp (maxSteps := 1000000)
  repeat' (first | apply And.intro | intro _)
  any_goals (first | (refine hK14 _ ?_; clear hK14) | (first | omega | (simp only [IntKind.wrap_i64] at *; omega) | (simp_all; done) | (simp_all; omega)))
  refine swp_ret ?_
  simp [fnPost, Try.results102, resP, tupOf]
  rw [← hI, List.drop_eq_nil_of_le (by omega)]
  rfl

theorem contf_ok (mo : Int) (hmo : 0 ≤ mo ∧ mo ≤ 9000) (vs : List Int) (hl : vs.length ≤ 1000000) : PCall Try.prog 62 [.ro (.ints .i64 vs), .fn 63 [.rop (.rows 1 [[.int .i64 mo]]) 0 0]] (.bool (vs.any (bad mo))) := by
 refine pcall_body ty_ok Try.func62 rfl (by rfl) (by simp) ?_
 rw [Try.ntmps62]
 refine swp_seq fun K1 hK1 => ?_
 refine swp_region ty_ok ?_
 try simp (maxSteps := 1000000)
 repeat' (first | apply And.intro | intro _)
 any_goals (first | (refine hK1 _ ?_; clear hK1) | (first | omega | (simp only [IntKind.wrap_i64] at *; omega) | (simp_all; done) | (simp_all; omega)))
 refine swp_seq fun K2 hK2 => ?_
 refine swp_region ty_ok ?_
 refine runs_cut 2 fun R3 hR3 => ?_
 try simp (maxSteps := 1000000) [List.take_succ_cons, List.take_zero, List.drop_succ_cons, List.drop_zero]
 repeat' (first | apply And.intro | intro _)
 any_goals (first | (refine hR3 _ ?_; clear hR3) | (first | omega | (simp only [IntKind.wrap_i64] at *; omega) | (simp_all; done) | (simp_all; omega)))
 refine runs_cut 1 fun R4 hR4 => ?_
 try simp (maxSteps := 1000000) [List.take_succ_cons, List.take_zero, List.drop_succ_cons, List.drop_zero]
 refine .inl ⟨_, indexf_ok mo hmo vs hl, ?_⟩
 try simp (maxSteps := 1000000)
 repeat' (first | apply And.intro | intro _)
 any_goals (first | (refine hR4 _ ?_; clear hR4) | (first | omega | (simp only [IntKind.wrap_i64] at *; omega) | (simp_all; done) | (simp_all; omega)))
 try simp (maxSteps := 1000000) [List.take_succ_cons, List.take_zero, List.drop_succ_cons, List.drop_zero]
 repeat' (first | apply And.intro | intro _)
 any_goals (first | (refine hK2 _ ?_; clear hK2) | (first | omega | (simp only [IntKind.wrap_i64] at *; omega) | (simp_all; done) | (simp_all; omega)))
 refine swp_ret ?_
 simp [fnPost, Try.results62, resP, tupOf]
 exact (fbL_any mo vs 0).symm

theorem fits_ok (i : Nat) (h1 : 1 ≤ i) (h2 : i ≤ 11) (vs : List Int) (hd : vs.length = bDim i) : PCall Try.prog 21 [.int .i64 (i : Nat), .ro (.ints .i64 vs)] (.tup [.bool (hFit i vs), .int .i64 0]) := by
 have hF := hkF h1 h2
 have hFm := hF.m
 have hFd := hF.d
 have hg := greatL_at h2
 have hgl := greatL_len
 have hany := any_fit (i := i) vs
 refine pcall_body ty_ok Try.func21 rfl (by rfl) (by simp) ?_
 rw [Try.ntmps21]
 refine swp_seq fun K1 hK1 => ?_
 refine swp_region ty_ok ?_
 try simp (maxSteps := 1000000)
 repeat' (first | apply And.intro | intro _)
 any_goals (first | (refine hK1 _ ?_; clear hK1) | (first | omega | (simp only [IntKind.wrap_i64] at *; omega) | (simp_all; done) | (simp_all; omega)))
 refine swp_seq fun K2 hK2 => ?_
 refine swp_block ?_
 refine swp_seq fun K3 hK3 => ?_
 refine swp_region ty_ok ?_
 try simp (maxSteps := 1000000)
 repeat' (first | apply And.intro | intro _)
 any_goals (first | (refine hK3 _ ?_; clear hK3) | (first | omega | (simp only [IntKind.wrap_i64] at *; omega) | (simp_all; done) | (simp_all; omega)))
 refine swp_if fun C4 hC4 => ?_
 try simp (maxSteps := 1000000)
 refine hC4 _ (fun hc4 => ?_) (fun hc4 => ?_)
 ·exfalso
  have h := hc4
  simp at h
  omega
 ·clear hC4
  try simp at hc4
  refine swp_seq fun K5 hK5 => ?_
  refine swp_region ty_ok ?_
  refine runs_cut 3 fun R6 hR6 => ?_
  try simp (maxSteps := 1000000) [hd, List.take_succ_cons, List.take_zero, List.drop_succ_cons, List.drop_zero]
  repeat' (first | apply And.intro | intro _)
  any_goals (first | (refine hR6 _ ?_; clear hR6) | (first | omega | (simp only [IntKind.wrap_i64] at *; omega) | (simp_all; done) | (simp_all; omega)))
  refine runs_cut 1 fun R7 hR7 => ?_
  try simp (maxSteps := 1000000) [hd, List.take_succ_cons, List.take_zero, List.drop_succ_cons, List.drop_zero]
  refine .inl ⟨_, hdim_ok i h1 h2, ?_⟩
  try simp (maxSteps := 1000000) [hd]
  repeat' (first | apply And.intro | intro _)
  any_goals (first | (refine hR7 _ ?_; clear hR7) | (first | omega | (simp only [IntKind.wrap_i64] at *; omega) | (simp_all; done) | (simp_all; omega)))
  try simp (maxSteps := 1000000) [hd, List.take_succ_cons, List.take_zero, List.drop_succ_cons, List.drop_zero]
  repeat' (first | apply And.intro | intro _)
  any_goals (first | (refine hK5 _ ?_; clear hK5) | (first | omega | (simp only [IntKind.wrap_i64] at *; omega) | (simp_all; done) | (simp_all; omega)))
  refine swp_if fun C8 hC8 => ?_
  try simp (maxSteps := 1000000) [hd]
  refine hC8 _ (fun hc8 => ?_) (fun hc8 => ?_)
  ·exact absurd hc8 (by simp [hd])
  ·clear hC8
   try simp at hc8
   refine swp_skip ?_
   try simp only [thn, inBlk]
   refine hK2 _ ?_; clear hK2
   refine swp_seq fun K9 hK9 => ?_
   refine swp_region ty_ok ?_
   refine runs_cut 1 fun R10 hR10 => ?_
   try simp (maxSteps := 1000000) [hg, hgl, List.take_succ_cons, List.take_zero, List.drop_succ_cons, List.drop_zero]
   refine .inl ⟨_, great_h, ?_⟩
   try simp (maxSteps := 1000000) [hg, hgl]
   repeat' (first | apply And.intro | intro _)
   any_goals (first | (refine hR10 _ ?_; clear hR10) | (first | omega | (simp only [IntKind.wrap_i64] at *; omega) | (simp_all; done) | (simp_all; omega)))
   try simp (maxSteps := 1000000) [hg, hgl, List.take_succ_cons, List.take_zero, List.drop_succ_cons, List.drop_zero]
   repeat' (first | apply And.intro | intro _)
   any_goals (first | (refine hK9 _ ?_; clear hK9) | (first | omega | (simp only [IntKind.wrap_i64] at *; omega) | (simp_all; done) | (simp_all; omega)))
   refine swp_seq fun K11 hK11 => ?_
   refine swp_region ty_ok ?_
   refine runs_cut 2 fun R12 hR12 => ?_
   try simp (maxSteps := 1000000) [hany, List.take_succ_cons, List.take_zero, List.drop_succ_cons, List.drop_zero]
   repeat' (first | apply And.intro | intro _)
   any_goals (first | (refine hR12 _ ?_; clear hR12) | (first | omega | (simp only [IntKind.wrap_i64] at *; omega) | (simp_all; done) | (simp_all; omega)))
   refine runs_cut 1 fun R13 hR13 => ?_
   try simp (maxSteps := 1000000) [hany, List.take_succ_cons, List.take_zero, List.drop_succ_cons, List.drop_zero]
   refine .inl ⟨_, contf_ok (hMost i) (by omega) vs (by rw [hd, hFd]; split <;> omega), ?_⟩
   try simp (maxSteps := 1000000) [hany]
   repeat' (first | apply And.intro | intro _)
   any_goals (first | (refine hR13 _ ?_; clear hR13) | (first | omega | (simp only [IntKind.wrap_i64] at *; omega) | (simp_all; done) | (simp_all; omega)))
   try simp (maxSteps := 1000000) [hany, List.take_succ_cons, List.take_zero, List.drop_succ_cons, List.drop_zero]
   repeat' (first | apply And.intro | intro _)
   any_goals (first | (refine hK11 _ ?_; clear hK11) | (first | omega | (simp only [IntKind.wrap_i64] at *; omega) | (simp_all; done) | (simp_all; omega)))
   refine swp_ret ?_
   simp [fnPost, Try.results21, resP, tupOf]

theorem fits_many (i : Nat) (h1 : 1 ≤ i) (h2 : i ≤ 11) (vs : List Int) (hd : ¬ vs.length = bDim i) : PCall Try.prog 21 [.int .i64 (i : Nat), .ro (.ints .i64 vs)] (.tup [.bool false, .int .i64 4]) := by
 refine pcall_body ty_ok Try.func21 rfl (by rfl) (by simp) ?_
 rw [Try.ntmps21]
 refine swp_seq fun K1 hK1 => ?_
 refine swp_region ty_ok ?_
 try simp (maxSteps := 1000000)
 repeat' (first | apply And.intro | intro _)
 any_goals (first | (refine hK1 _ ?_; clear hK1) | (first | omega | (simp only [IntKind.wrap_i64] at *; omega) | (simp_all; done) | (simp_all; omega)))
 refine swp_seq fun K2 hK2 => ?_
 refine swp_block ?_
 refine swp_seq fun K3 hK3 => ?_
 refine swp_region ty_ok ?_
 try simp (maxSteps := 1000000)
 repeat' (first | apply And.intro | intro _)
 any_goals (first | (refine hK3 _ ?_; clear hK3) | (first | omega | (simp only [IntKind.wrap_i64] at *; omega) | (simp_all; done) | (simp_all; omega)))
 refine swp_if fun C4 hC4 => ?_
 try simp (maxSteps := 1000000)
 refine hC4 _ (fun hc4 => ?_) (fun hc4 => ?_)
 ·exfalso
  have h := hc4
  simp at h
  omega
 ·clear hC4
  try simp at hc4
  refine swp_seq fun K5 hK5 => ?_
  refine swp_region ty_ok ?_
  refine runs_cut 3 fun R6 hR6 => ?_
  try simp (maxSteps := 1000000) [List.take_succ_cons, List.take_zero, List.drop_succ_cons, List.drop_zero]
  repeat' (first | apply And.intro | intro _)
  any_goals (first | (refine hR6 _ ?_; clear hR6) | (first | omega | (simp only [IntKind.wrap_i64] at *; omega) | (simp_all; done) | (simp_all; omega)))
  refine runs_cut 1 fun R7 hR7 => ?_
  try simp (maxSteps := 1000000) [List.take_succ_cons, List.take_zero, List.drop_succ_cons, List.drop_zero]
  refine .inl ⟨_, hdim_ok i h1 h2, ?_⟩
  try simp (maxSteps := 1000000)
  repeat' (first | apply And.intro | intro _)
  any_goals (first | (refine hR7 _ ?_; clear hR7) | (first | omega | (simp only [IntKind.wrap_i64] at *; omega) | (simp_all; done) | (simp_all; omega)))
  try simp (maxSteps := 1000000) [List.take_succ_cons, List.take_zero, List.drop_succ_cons, List.drop_zero]
  repeat' (first | apply And.intro | intro _)
  any_goals (first | (refine hK5 _ ?_; clear hK5) | (first | omega | (simp only [IntKind.wrap_i64] at *; omega) | (simp_all; done) | (simp_all; omega)))
  refine swp_if fun C8 hC8 => ?_
  try simp (maxSteps := 1000000)
  refine hC8 _ (fun hc8 => ?_) (fun hc8 => ?_)
  ·clear hC8
   try simp at hc8
   refine swp_seq fun K9 hK9 => ?_
   refine swp_region ty_ok ?_
   try simp (maxSteps := 1000000)
   repeat' (first | apply And.intro | intro _)
   any_goals (first | (refine hK9 _ ?_; clear hK9) | (first | omega | (simp only [IntKind.wrap_i64] at *; omega) | (simp_all; done) | (simp_all; omega)))
   refine swp_ret ?_
   simp [fnPost, Try.results21, resP, tupOf]
  ·exfalso
   have h := hc8
   simp at h
   omega

theorem fits_no (n : Int) (h : n < 1 ∨ 11 < n) (vs : List Int) : PCall Try.prog 21 [.int .i64 n, .ro (.ints .i64 vs)] (.tup [.bool false, .int .i64 2]) := by
 refine pcall_body ty_ok Try.func21 rfl (by rfl) (by simp) ?_
 rw [Try.ntmps21]
 refine swp_seq fun K1 hK1 => ?_
 refine swp_region ty_ok ?_
 try simp (maxSteps := 1000000)
 repeat' (first | apply And.intro | intro _)
 any_goals (first | (refine hK1 _ ?_; clear hK1) | (first | omega | (simp only [IntKind.wrap_i64] at *; omega) | (simp_all; done) | (simp_all; omega)))
 refine swp_seq fun K2 hK2 => ?_
 refine swp_block ?_
 refine swp_seq fun K3 hK3 => ?_
 refine swp_region ty_ok ?_
 try simp (maxSteps := 1000000)
 repeat' (first | apply And.intro | intro _)
 any_goals (first | (refine hK3 _ ?_; clear hK3) | (first | omega | (simp only [IntKind.wrap_i64] at *; omega) | (simp_all; done) | (simp_all; omega)))
 refine swp_if fun C4 hC4 => ?_
 try simp (maxSteps := 1000000)
 refine hC4 _ (fun hc4 => ?_) (fun hc4 => ?_)
 ·clear hC4
  try simp at hc4
  refine swp_seq fun K5 hK5 => ?_
  refine swp_region ty_ok ?_
  try simp (maxSteps := 1000000)
  repeat' (first | apply And.intro | intro _)
  any_goals (first | (refine hK5 _ ?_; clear hK5) | (first | omega | (simp only [IntKind.wrap_i64] at *; omega) | (simp_all; done) | (simp_all; omega)))
  refine swp_ret ?_
  simp [fnPost, Try.results21, resP, tupOf]
 ·exfalso
  have h := hc4
  simp at h
  omega

theorem checked_ok (i : Nat) (h1 : 1 ≤ i) (h2 : i ≤ 11)  : PCall Try.prog 42 [bookV i] (.int .i64 0) := by
 have hm := (bk_ok h1 (by omega : i ≤ 12)).many
 refine pcall_body ty_ok Try.func42 rfl (by rfl) (by simp) ?_
 rw [Try.ntmps42]
 refine swp_seq fun K1 hK1 => ?_
 refine swp_region ty_ok ?_
 try simp (maxSteps := 1000000) [bookV]
 repeat' (first | apply And.intro | intro _)
 any_goals (first | (refine hK1 _ ?_; clear hK1) | (first | omega | (simp only [IntKind.wrap_i64] at *; omega) | (simp_all; done) | (simp_all; omega)))
 refine swp_seq fun K2 hK2 => ?_
 refine swp_seq fun K3 hK3 => ?_
 refine swp_region ty_ok ?_
 refine runs_cut 1 fun R4 hR4 => ?_
 try simp (maxSteps := 1000000) [bookV, List.take_succ_cons, List.take_zero, List.drop_succ_cons, List.drop_zero]
 repeat' (first | apply And.intro | intro _)
 any_goals (first | (refine hR4 _ ?_; clear hR4) | (first | omega | (simp only [IntKind.wrap_i64] at *; omega) | (simp_all; done) | (simp_all; omega)))
 refine runs_cut 1 fun R5 hR5 => ?_
 try simp (maxSteps := 1000000) [bookV, List.take_succ_cons, List.take_zero, List.drop_succ_cons, List.drop_zero]
 refine .inl ⟨_, code_ok i h1 (by omega) 0 (by omega), ?_⟩
 try simp (maxSteps := 1000000) [bookV]
 repeat' (first | apply And.intro | intro _)
 any_goals (first | (refine hR5 _ ?_; clear hR5) | (first | omega | (simp only [IntKind.wrap_i64] at *; omega) | (simp_all; done) | (simp_all; omega)))
 try simp (maxSteps := 1000000) [bookV, List.take_succ_cons, List.take_zero, List.drop_succ_cons, List.drop_zero]
 repeat' (first | apply And.intro | intro _)
 any_goals (first | (refine hK3 _ ?_; clear hK3) | (first | omega | (simp only [IntKind.wrap_i64] at *; omega) | (simp_all; done) | (simp_all; omega)))
 refine swp_seq fun K6 hK6 => ?_
 refine swp_region ty_ok ?_
 try simp (maxSteps := 1000000) [bookV]
 repeat' (first | apply And.intro | intro _)
 any_goals (first | (refine hK6 _ ?_; clear hK6) | (first | omega | (simp only [IntKind.wrap_i64] at *; omega) | (simp_all; done) | (simp_all; omega)))
 refine swp_if fun C7 hC7 => ?_
 try simp (maxSteps := 1000000) [bookV]
 refine hC7 _ (fun hc7 => ?_) (fun hc7 => ?_)
 ·exact absurd hc7 (by simp)
 ·clear hC7
  try simp at hc7
  refine swp_skip ?_
  try simp only [thn, inBlk]
  refine hK2 _ ?_; clear hK2
  refine swp_seq fun K8 hK8 => ?_
  refine swp_seq fun K9 hK9 => ?_
  refine swp_region ty_ok ?_
  try simp (maxSteps := 1000000) [bookV]
  repeat' (first | apply And.intro | intro _)
  any_goals (first | (refine hK9 _ ?_; clear hK9) | (first | omega | (simp only [IntKind.wrap_i64] at *; omega) | (simp_all; done) | (simp_all; omega)))
  refine swp_if fun C10 hC10 => ?_
  try simp (maxSteps := 1000000) [bookV]
  refine hC10 _ (fun hc10 => ?_) (fun hc10 => ?_)
  ·exfalso
   have h := hc10
   simp at h
   omega
  ·clear hC10
   try simp at hc10
   refine swp_skip ?_
   try simp only [thn, inBlk]
   refine hK8 _ ?_; clear hK8
   refine swp_seq fun K11 hK11 => ?_
   refine swp_region ty_ok ?_
   try simp (maxSteps := 1000000) [bookV]
   repeat' (first | apply And.intro | intro _)
   any_goals (first | (refine hK11 _ ?_; clear hK11) | (first | omega | (simp only [IntKind.wrap_i64] at *; omega) | (simp_all; done) | (simp_all; omega)))
   refine swp_ret ?_
   simp [fnPost, Try.results42, resP, tupOf]

theorem checked_12  : PCall Try.prog 42 [bookV 12] (.int .i64 2) := by
 refine pcall_body ty_ok Try.func42 rfl (by rfl) (by simp) ?_
 rw [Try.ntmps42]
 refine swp_seq fun K1 hK1 => ?_
 refine swp_region ty_ok ?_
 try simp (maxSteps := 1000000) [bk12]
 repeat' (first | apply And.intro | intro _)
 any_goals (first | (refine hK1 _ ?_; clear hK1) | (first | omega | (simp only [IntKind.wrap_i64] at *; omega) | (simp_all; done) | (simp_all; omega)))
 refine swp_seq fun K2 hK2 => ?_
 refine swp_seq fun K3 hK3 => ?_
 refine swp_region ty_ok ?_
 refine runs_cut 1 fun R4 hR4 => ?_
 try simp (maxSteps := 1000000) [bk12, List.take_succ_cons, List.take_zero, List.drop_succ_cons, List.drop_zero]
 repeat' (first | apply And.intro | intro _)
 any_goals (first | (refine hR4 _ ?_; clear hR4) | (first | omega | (simp only [IntKind.wrap_i64] at *; omega) | (simp_all; done) | (simp_all; omega)))
 refine runs_cut 1 fun R5 hR5 => ?_
 try simp (maxSteps := 1000000) [bk12, List.take_succ_cons, List.take_zero, List.drop_succ_cons, List.drop_zero]
 refine .inl ⟨_, code_ok 12 (by omega) (by omega) 0 (by decide), ?_⟩
 try simp (maxSteps := 1000000) [bk12]
 repeat' (first | apply And.intro | intro _)
 any_goals (first | (refine hR5 _ ?_; clear hR5) | (first | omega | (simp only [IntKind.wrap_i64] at *; omega) | (simp_all; done) | (simp_all; omega)))
 try simp (maxSteps := 1000000) [bk12, List.take_succ_cons, List.take_zero, List.drop_succ_cons, List.drop_zero]
 repeat' (first | apply And.intro | intro _)
 any_goals (first | (refine hK3 _ ?_; clear hK3) | (first | omega | (simp only [IntKind.wrap_i64] at *; omega) | (simp_all; done) | (simp_all; omega)))
 refine swp_seq fun K6 hK6 => ?_
 refine swp_region ty_ok ?_
 try simp (maxSteps := 1000000) [bk12]
 repeat' (first | apply And.intro | intro _)
 any_goals (first | (refine hK6 _ ?_; clear hK6) | (first | omega | (simp only [IntKind.wrap_i64] at *; omega) | (simp_all; done) | (simp_all; omega)))
 refine swp_if fun C7 hC7 => ?_
 try simp (maxSteps := 1000000) [bk12]
 refine hC7 _ (fun hc7 => ?_) (fun hc7 => ?_)
 ·exact absurd hc7 (by simp)
 ·clear hC7
  try simp at hc7
  refine swp_skip ?_
  try simp only [thn, inBlk]
  refine hK2 _ ?_; clear hK2
  refine swp_seq fun K8 hK8 => ?_
  refine swp_seq fun K9 hK9 => ?_
  refine swp_region ty_ok ?_
  try simp (maxSteps := 1000000) [bk12]
  repeat' (first | apply And.intro | intro _)
  any_goals (first | (refine hK9 _ ?_; clear hK9) | (first | omega | (simp only [IntKind.wrap_i64] at *; omega) | (simp_all; done) | (simp_all; omega)))
  refine swp_if fun C10 hC10 => ?_
  try simp (maxSteps := 1000000) [bk12]
  refine hC10 _ (fun hc10 => ?_) (fun hc10 => ?_)
  ·clear hC10
   try simp at hc10
   refine swp_seq fun K11 hK11 => ?_
   refine swp_region ty_ok ?_
   try simp (maxSteps := 1000000) [bk12]
   repeat' (first | apply And.intro | intro _)
   any_goals (first | (refine hK11 _ ?_; clear hK11) | (first | omega | (simp only [IntKind.wrap_i64] at *; omega) | (simp_all; done) | (simp_all; omega)))
   refine swp_ret ?_
   simp [fnPost, Try.results42, resP, tupOf]
  ·exact absurd hc10 (by simp)

theorem checked_no (id p : Int) (es rs : List Int) (h : rightB id p es rs = false) : PCall Try.prog 42 [.agg [.int .i64 id, .int .i64 p, .ro (.ints .i64 es), .ro (.ints .i64 rs)]] (.int .i64 8) := by
 refine pcall_body ty_ok Try.func42 rfl (by rfl) (by simp) ?_
 rw [Try.ntmps42]
 refine swp_seq fun K1 hK1 => ?_
 refine swp_region ty_ok ?_
 try simp (maxSteps := 1000000)
 repeat' (first | apply And.intro | intro _)
 any_goals (first | (refine hK1 _ ?_; clear hK1) | (first | omega | (simp only [IntKind.wrap_i64] at *; omega) | (simp_all; done) | (simp_all; omega)))
 refine swp_seq fun K2 hK2 => ?_
 refine swp_seq fun K3 hK3 => ?_
 refine swp_region ty_ok ?_
 refine runs_cut 1 fun R4 hR4 => ?_
 try simp (maxSteps := 1000000) [List.take_succ_cons, List.take_zero, List.drop_succ_cons, List.drop_zero]
 repeat' (first | apply And.intro | intro _)
 any_goals (first | (refine hR4 _ ?_; clear hR4) | (first | omega | (simp only [IntKind.wrap_i64] at *; omega) | (simp_all; done) | (simp_all; omega)))
 refine runs_cut 1 fun R5 hR5 => ?_
 try simp (maxSteps := 1000000) [List.take_succ_cons, List.take_zero, List.drop_succ_cons, List.drop_zero]
 refine .inl ⟨_, code_no id p es rs h 0, ?_⟩
 try simp (maxSteps := 1000000)
 repeat' (first | apply And.intro | intro _)
 any_goals (first | (refine hR5 _ ?_; clear hR5) | (first | omega | (simp only [IntKind.wrap_i64] at *; omega) | (simp_all; done) | (simp_all; omega)))
 try simp (maxSteps := 1000000) [List.take_succ_cons, List.take_zero, List.drop_succ_cons, List.drop_zero]
 repeat' (first | apply And.intro | intro _)
 any_goals (first | (refine hK3 _ ?_; clear hK3) | (first | omega | (simp only [IntKind.wrap_i64] at *; omega) | (simp_all; done) | (simp_all; omega)))
 refine swp_seq fun K6 hK6 => ?_
 refine swp_region ty_ok ?_
 try simp (maxSteps := 1000000)
 repeat' (first | apply And.intro | intro _)
 any_goals (first | (refine hK6 _ ?_; clear hK6) | (first | omega | (simp only [IntKind.wrap_i64] at *; omega) | (simp_all; done) | (simp_all; omega)))
 refine swp_if fun C7 hC7 => ?_
 try simp (maxSteps := 1000000)
 refine hC7 _ (fun hc7 => ?_) (fun hc7 => ?_)
 ·clear hC7
  try simp at hc7
  refine swp_seq fun K8 hK8 => ?_
  refine swp_region ty_ok ?_
  try simp (maxSteps := 1000000)
  repeat' (first | apply And.intro | intro _)
  any_goals (first | (refine hK8 _ ?_; clear hK8) | (first | omega | (simp only [IntKind.wrap_i64] at *; omega) | (simp_all; done) | (simp_all; omega)))
  refine swp_ret ?_
  simp [fnPost, Try.results42, resP, tupOf]
 ·exact absurd hc7 (by simp)

end Go.Proofs.Ytgheplondkoedaa

