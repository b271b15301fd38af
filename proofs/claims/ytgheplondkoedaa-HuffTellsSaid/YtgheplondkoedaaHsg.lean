import Derived.Test.YtgheplondkoedaaWf
import Derived.Test.YtgheplondkoedaaTyh
import Derived.Test.YtgheplondkoedaaBkq
import Derived.Test.YtgheplondkoedaaHsrt
import Derived.Test.YtgheplondkoedaaHbk
import Derived.Test.YtgheplondkoedaaHbk2
import Derived.Test.YtgheplondkoedaaHbk3
import Derived.Test.YtgheplondkoedaaHbits
import Derived.Test.YtgheplondkoedaaHrd
import Derived.Test.YtgheplondkoedaaHrdq
import Derived.Test.YtgheplondkoedaaHbits2
import Derived.Test.YtgheplondkoedaaHbk4
import Derived.Test.YtgheplondkoedaaHbk5
import Derived.Test.YtgheplondkoedaaHbk6
import Derived.Test.YtgheplondkoedaaHbk8
import Derived.Test.YtgheplondkoedaaHbk9
import Derived.Test.YtgheplondkoedaaHgrow
import Derived.Test.YtgheplondkoedaaHst
import Derived.Test.YtgheplondkoedaaHrep
import Derived.Test.YtgheplondkoedaaHputh
import Derived.Test.YtgheplondkoedaaHft
import Derived.Test.YtgheplondkoedaaHpt
namespace Go.Proofs.Ytgheplondkoedaa
set_option linter.unusedVariables false
set_option linter.unusedSimpArgs false
set_option maxRecDepth 10000
open Go Go.Pv

open Go.RowKit
def rkE (i e : Nat) : Nat := (bRk i)[e]?.getD 0
/-- The bits of values that fit. -/
def huffL (i : Nat) (vs : List Int) : List Int := if hSig i = true then codeL (bPlain i) (rkE i (entN i vs)) else codeL (bPlain i) (rkE i (entN i (hTold i vs))) ++ hSg vs ++ hEs i vs
theorem code_len {i e : Nat} (h1 : 1 ≤ i) (h2 : i ≤ 12) (he : e < bMany i) : 1 ≤ (codeL (bPlain i) (rkE i e)).length ∧ (codeL (bPlain i) (rkE i e)).length ≤ 100 := by
 have hB := bk_ok h1 h2
 have hE := bke h1 h2
 have hm := hB.many
 have hp := hB.plain
 have hr := (hE.ra he).2
 have f := (codeF (p := bPlain i) (r := rkE i e) hp (by unfold rkE; omega)).m
 rw [codeL_len]
 omega
def tv (v : Int) : Int := IntKind.i64.wrap (-v)
theorem hput_ok (i : Nat) (h1 : 1 ≤ i) (h2 : i ≤ 11) (b vs : List Int) (hd : vs.length = bDim i) (hf : hFit i vs = true) (hb : b.length ≤ 1000000) : PCall Try.prog 15 [.ro (.ints .u8 b), bookV i, .ro (.ints .i64 vs)] (.tup [.ro (.ints .u8 (b ++ huffL i vs)), .int .i64 0]) := by
 unfold huffL
 cases hs : hSig i with
 | true =>
  rw [if_pos rfl]
  have he := (sig_ent h1 h2 hd hf hs).2.2
  exact putS_ok i h1 h2 _ _ _ b vs _ 0 hd hf (code_ok i h1 (by omega) _ he) rfl (code_len h1 (by omega) he) hb hs
 | false =>
  rw [if_neg (by simp)]
  have he := (told_ent h1 h2 hd hf hs).2.2
  have hc := code_ok i h1 (by omega) _ he
  have hl := code_len h1 (by omega : i ≤ 12) he
  rw [← List.append_assoc, ← List.append_assoc]
  by_cases h11 : i = 11
  ·exact putU_ok_e i h1 h2 _ _ _ b vs _ 0 hd hf hc rfl hl hb hs h11
  ·exact putU_ok_n i h1 h2 _ _ _ b vs _ 0 hd hf hc rfl hl hb hs h11
theorem hput_odd (i : Nat) (h1 : 1 ≤ i) (h2 : i ≤ 11) (p : Int) (es rs : List Int) (hr : rightB (i : Nat) p es rs = false) (b vs : List Int) (hd : vs.length = bDim i) (hf : hFit i vs = true) : PCall Try.prog 15 [.ro (.ints .u8 b), .agg [.int .i64 (i : Nat), .int .i64 p, .ro (.ints .i64 es), .ro (.ints .i64 rs)], .ro (.ints .i64 vs)] (.tup [.ro (.ints .u8 []), .int .i64 8]) := by
 cases hs : hSig i with
 | true => exact putS_no i h1 h2 p es rs b vs [] 8 hd hf (code_no (i : Nat) p es rs hr _) rfl hs
 | false =>
  by_cases h11 : i = 11
  ·exact putU_no_e i h1 h2 p es rs b vs [] 8 hd hf (code_no (i : Nat) p es rs hr _) rfl hs h11
  ·exact putU_no_n i h1 h2 p es rs b vs [] 8 hd hf (code_no (i : Nat) p es rs hr _) rfl hs h11

attribute [local simp] runs gd step1 need evu un opnds opv ev cst cst1 cstL getT getH putT onL nxt argT cellsOf PV.one thn inBlk jmp fldP ldP ldC live Cells.len Cells.get Cells.w sug ldv bin eqF eq1 ops2 sh2 binv Tk.agg stC apC rdS apS cpC cpS mvL zp argsP idx fillP toInts chunks mkC ixS ixA oidx slP sl0 slA optL List.append mxF bltn frzA frz frzL frz1 pur1 Cells.pur PV.scal scal1 runD rdO PV.ids id1 zids ety Eff.on cnd minb and1b ifmax ifmin mxv sugI strv w0 w1 w2 wm1
theorem hput_many (i : Nat) (h1 : 1 ≤ i) (h2 : i ≤ 11) (b vs : List Int) (hd : ¬ vs.length = bDim i) : PCall Try.prog 15 [.ro (.ints .u8 b), bookV i, .ro (.ints .i64 vs)] (.tup [.ro (.ints .u8 []), .int .i64 4]) := by
 refine pcall_body ty_ok Try.func15 rfl (by rfl) (by simp) ?_
 rw [Try.ntmps15]
 refine swp_seq fun K1 hK1 => ?_
 refine swp_region ty_ok ?_
 try simp (maxSteps := 1000000) [bookV]
 repeat' (first | apply And.intro | intro _)
 any_goals (first | (refine hK1 _ ?_; clear hK1) | (first | omega | (simp only [IntKind.wrap_i64] at *; omega) | (simp_all; done) | (simp_all; omega)))
 refine swp_seq fun K2 hK2 => ?_
 refine swp_region ty_ok ?_
 refine runs_cut 3 fun R3 hR3 => ?_
 try simp (maxSteps := 1000000) [bookV, List.take_succ_cons, List.take_zero, List.drop_succ_cons, List.drop_zero]
 repeat' (first | apply And.intro | intro _)
 any_goals (first | (refine hR3 _ ?_; clear hR3) | (first | omega | (simp only [IntKind.wrap_i64] at *; omega) | (simp_all; done) | (simp_all; omega)))
 refine runs_cut 1 fun R4 hR4 => ?_
 try simp (maxSteps := 1000000) [bookV, List.take_succ_cons, List.take_zero, List.drop_succ_cons, List.drop_zero]
 refine .inl ⟨_, fits_many i h1 h2 vs hd, ?_⟩
 try simp (maxSteps := 1000000) [bookV]
 repeat' (first | apply And.intro | intro _)
 any_goals (first | (refine hR4 _ ?_; clear hR4) | (first | omega | (simp only [IntKind.wrap_i64] at *; omega) | (simp_all; done) | (simp_all; omega)))
 try simp (maxSteps := 1000000) [bookV, List.take_succ_cons, List.take_zero, List.drop_succ_cons, List.drop_zero]
 repeat' (first | apply And.intro | intro _)
 any_goals (first | (refine hK2 _ ?_; clear hK2) | (first | omega | (simp only [IntKind.wrap_i64] at *; omega) | (simp_all; done) | (simp_all; omega)))
 refine swp_seq fun K5 hK5 => ?_
 refine swp_seq fun K6 hK6 => ?_
 refine swp_region ty_ok ?_
 try simp (maxSteps := 1000000) [bookV]
 repeat' (first | apply And.intro | intro _)
 any_goals (first | (refine hK6 _ ?_; clear hK6) | (first | omega | (simp only [IntKind.wrap_i64] at *; omega) | (simp_all; done) | (simp_all; omega)))
 refine swp_if fun C7 hC7 => ?_
 try simp (maxSteps := 1000000) [bookV]
 refine hC7 _ (fun hc7 => ?_) (fun hc7 => ?_)
 ·clear hC7
  try simp at hc7
  refine swp_seq fun K8 hK8 => ?_
  refine swp_seq fun K9 hK9 => ?_
  refine swp_region ty_ok ?_
  refine runs_cut 1 fun R10 hR10 => ?_
  try simp (maxSteps := 1000000) [bookV, List.take_succ_cons, List.take_zero, List.drop_succ_cons, List.drop_zero]
  repeat' (first | apply And.intro | intro _)
  any_goals (first | (refine hR10 _ ?_; clear hR10) | (first | omega | (simp only [IntKind.wrap_i64] at *; omega) | (simp_all; done) | (simp_all; omega)))
  refine runs_cut 1 fun R11 hR11 => ?_
  try simp (maxSteps := 1000000) [bookV, List.take_succ_cons, List.take_zero, List.drop_succ_cons, List.drop_zero]
  refine .inl ⟨_, checked_ok i h1 h2, ?_⟩
  try simp (maxSteps := 1000000) [bookV]
  repeat' (first | apply And.intro | intro _)
  any_goals (first | (refine hR11 _ ?_; clear hR11) | (first | omega | (simp only [IntKind.wrap_i64] at *; omega) | (simp_all; done) | (simp_all; omega)))
  try simp (maxSteps := 1000000) [bookV, List.take_succ_cons, List.take_zero, List.drop_succ_cons, List.drop_zero]
  repeat' (first | apply And.intro | intro _)
  any_goals (first | (refine hK9 _ ?_; clear hK9) | (first | omega | (simp only [IntKind.wrap_i64] at *; omega) | (simp_all; done) | (simp_all; omega)))
  refine swp_seq fun K12 hK12 => ?_
  refine swp_region ty_ok ?_
  try simp (maxSteps := 1000000) [bookV]
  repeat' (first | apply And.intro | intro _)
  any_goals (first | (refine hK12 _ ?_; clear hK12) | (first | omega | (simp only [IntKind.wrap_i64] at *; omega) | (simp_all; done) | (simp_all; omega)))
  refine swp_if fun C13 hC13 => ?_
  try simp (maxSteps := 1000000) [bookV]
  refine hC13 _ (fun hc13 => ?_) (fun hc13 => ?_)
  ·exact absurd hc13 (by simp)
  ·clear hC13
   try simp at hc13
   refine swp_skip ?_
   try simp only [thn, inBlk]
   refine hK8 _ ?_; clear hK8
   refine swp_seq fun K14 hK14 => ?_
   refine swp_region ty_ok ?_
   try simp (maxSteps := 1000000) [bookV]
   repeat' (first | apply And.intro | intro _)
   any_goals (first | (refine hK14 _ ?_; clear hK14) | (first | omega | (simp only [IntKind.wrap_i64] at *; omega) | (simp_all; done) | (simp_all; omega)))
   refine swp_ret ?_
   simp [fnPost, Try.results15, resP, tupOf]
 ·exact absurd hc7 (by simp)

theorem hput_nofit (i : Nat) (h1 : 1 ≤ i) (h2 : i ≤ 11) (b vs : List Int) (hd : vs.length = bDim i) (hf : hFit i vs = false) : PCall Try.prog 15 [.ro (.ints .u8 b), bookV i, .ro (.ints .i64 vs)] (.tup [.ro (.ints .u8 []), .int .i64 2]) := by
 refine pcall_body ty_ok Try.func15 rfl (by rfl) (by simp) ?_
 rw [Try.ntmps15]
 refine swp_seq fun K1 hK1 => ?_
 refine swp_region ty_ok ?_
 try simp (maxSteps := 1000000) [bookV]
 repeat' (first | apply And.intro | intro _)
 any_goals (first | (refine hK1 _ ?_; clear hK1) | (first | omega | (simp only [IntKind.wrap_i64] at *; omega) | (simp_all; done) | (simp_all; omega)))
 refine swp_seq fun K2 hK2 => ?_
 refine swp_region ty_ok ?_
 refine runs_cut 3 fun R3 hR3 => ?_
 try simp (maxSteps := 1000000) [bookV, List.take_succ_cons, List.take_zero, List.drop_succ_cons, List.drop_zero]
 repeat' (first | apply And.intro | intro _)
 any_goals (first | (refine hR3 _ ?_; clear hR3) | (first | omega | (simp only [IntKind.wrap_i64] at *; omega) | (simp_all; done) | (simp_all; omega)))
 refine runs_cut 1 fun R4 hR4 => ?_
 try simp (maxSteps := 1000000) [bookV, List.take_succ_cons, List.take_zero, List.drop_succ_cons, List.drop_zero]
 refine .inl ⟨_, fits_ok i h1 h2 vs hd, ?_⟩
 try simp (maxSteps := 1000000) [bookV]
 repeat' (first | apply And.intro | intro _)
 any_goals (first | (refine hR4 _ ?_; clear hR4) | (first | omega | (simp only [IntKind.wrap_i64] at *; omega) | (simp_all; done) | (simp_all; omega)))
 try simp (maxSteps := 1000000) [bookV, List.take_succ_cons, List.take_zero, List.drop_succ_cons, List.drop_zero]
 repeat' (first | apply And.intro | intro _)
 any_goals (first | (refine hK2 _ ?_; clear hK2) | (first | omega | (simp only [IntKind.wrap_i64] at *; omega) | (simp_all; done) | (simp_all; omega)))
 refine swp_seq fun K5 hK5 => ?_
 refine swp_seq fun K6 hK6 => ?_
 refine swp_region ty_ok ?_
 try simp (maxSteps := 1000000) [bookV, hf]
 repeat' (first | apply And.intro | intro _)
 any_goals (first | (refine hK6 _ ?_; clear hK6) | (first | omega | (simp only [IntKind.wrap_i64] at *; omega) | (simp_all; done) | (simp_all; omega)))
 refine swp_if fun C7 hC7 => ?_
 try simp (maxSteps := 1000000) [bookV, hf]
 refine hC7 _ (fun hc7 => ?_) (fun hc7 => ?_)
 ·clear hC7
  try simp at hc7
  refine swp_seq fun K8 hK8 => ?_
  refine swp_seq fun K9 hK9 => ?_
  refine swp_region ty_ok ?_
  refine runs_cut 1 fun R10 hR10 => ?_
  try simp (maxSteps := 1000000) [bookV, List.take_succ_cons, List.take_zero, List.drop_succ_cons, List.drop_zero]
  repeat' (first | apply And.intro | intro _)
  any_goals (first | (refine hR10 _ ?_; clear hR10) | (first | omega | (simp only [IntKind.wrap_i64] at *; omega) | (simp_all; done) | (simp_all; omega)))
  refine runs_cut 1 fun R11 hR11 => ?_
  try simp (maxSteps := 1000000) [bookV, List.take_succ_cons, List.take_zero, List.drop_succ_cons, List.drop_zero]
  refine .inl ⟨_, checked_ok i h1 h2, ?_⟩
  try simp (maxSteps := 1000000) [bookV]
  repeat' (first | apply And.intro | intro _)
  any_goals (first | (refine hR11 _ ?_; clear hR11) | (first | omega | (simp only [IntKind.wrap_i64] at *; omega) | (simp_all; done) | (simp_all; omega)))
  try simp (maxSteps := 1000000) [bookV, List.take_succ_cons, List.take_zero, List.drop_succ_cons, List.drop_zero]
  repeat' (first | apply And.intro | intro _)
  any_goals (first | (refine hK9 _ ?_; clear hK9) | (first | omega | (simp only [IntKind.wrap_i64] at *; omega) | (simp_all; done) | (simp_all; omega)))
  refine swp_seq fun K12 hK12 => ?_
  refine swp_region ty_ok ?_
  try simp (maxSteps := 1000000) [bookV]
  repeat' (first | apply And.intro | intro _)
  any_goals (first | (refine hK12 _ ?_; clear hK12) | (first | omega | (simp only [IntKind.wrap_i64] at *; omega) | (simp_all; done) | (simp_all; omega)))
  refine swp_if fun C13 hC13 => ?_
  try simp (maxSteps := 1000000) [bookV]
  refine hC13 _ (fun hc13 => ?_) (fun hc13 => ?_)
  ·exact absurd hc13 (by simp [hf])
  ·clear hC13
   try simp at hc13
   refine swp_skip ?_
   try simp only [thn, inBlk]
   refine hK8 _ ?_; clear hK8
   refine swp_seq fun K14 hK14 => ?_
   refine swp_region ty_ok ?_
   try simp (maxSteps := 1000000) [bookV]
   repeat' (first | apply And.intro | intro _)
   any_goals (first | (refine hK14 _ ?_; clear hK14) | (first | omega | (simp only [IntKind.wrap_i64] at *; omega) | (simp_all; done) | (simp_all; omega)))
   refine swp_ret ?_
   simp [fnPost, Try.results15, resP, tupOf]
 ·exact absurd hc7 (by simp [hf])

theorem hput_12 (b vs : List Int) : PCall Try.prog 15 [.ro (.ints .u8 b), bookV 12, .ro (.ints .i64 vs)] (.tup [.ro (.ints .u8 []), .int .i64 2]) := by
 refine pcall_body ty_ok Try.func15 rfl (by rfl) (by simp) ?_
 rw [Try.ntmps15]
 refine swp_seq fun K1 hK1 => ?_
 refine swp_region ty_ok ?_
 try simp (maxSteps := 1000000) [bk12]
 repeat' (first | apply And.intro | intro _)
 any_goals (first | (refine hK1 _ ?_; clear hK1) | (first | omega | (simp only [IntKind.wrap_i64] at *; omega) | (simp_all; done) | (simp_all; omega)))
 refine swp_seq fun K2 hK2 => ?_
 refine swp_region ty_ok ?_
 refine runs_cut 3 fun R3 hR3 => ?_
 try simp (maxSteps := 1000000) [bk12, List.take_succ_cons, List.take_zero, List.drop_succ_cons, List.drop_zero]
 repeat' (first | apply And.intro | intro _)
 any_goals (first | (refine hR3 _ ?_; clear hR3) | (first | omega | (simp only [IntKind.wrap_i64] at *; omega) | (simp_all; done) | (simp_all; omega)))
 refine runs_cut 1 fun R4 hR4 => ?_
 try simp (maxSteps := 1000000) [bk12, List.take_succ_cons, List.take_zero, List.drop_succ_cons, List.drop_zero]
 refine .inl ⟨_, fits_no 12 (by omega) vs, ?_⟩
 try simp (maxSteps := 1000000) [bk12]
 repeat' (first | apply And.intro | intro _)
 any_goals (first | (refine hR4 _ ?_; clear hR4) | (first | omega | (simp only [IntKind.wrap_i64] at *; omega) | (simp_all; done) | (simp_all; omega)))
 try simp (maxSteps := 1000000) [bk12, List.take_succ_cons, List.take_zero, List.drop_succ_cons, List.drop_zero]
 repeat' (first | apply And.intro | intro _)
 any_goals (first | (refine hK2 _ ?_; clear hK2) | (first | omega | (simp only [IntKind.wrap_i64] at *; omega) | (simp_all; done) | (simp_all; omega)))
 refine swp_seq fun K5 hK5 => ?_
 refine swp_seq fun K6 hK6 => ?_
 refine swp_region ty_ok ?_
 try simp (maxSteps := 1000000) [bk12]
 repeat' (first | apply And.intro | intro _)
 any_goals (first | (refine hK6 _ ?_; clear hK6) | (first | omega | (simp only [IntKind.wrap_i64] at *; omega) | (simp_all; done) | (simp_all; omega)))
 refine swp_if fun C7 hC7 => ?_
 try simp (maxSteps := 1000000) [bk12]
 refine hC7 _ (fun hc7 => ?_) (fun hc7 => ?_)
 ·clear hC7
  try simp at hc7
  refine swp_seq fun K8 hK8 => ?_
  refine swp_seq fun K9 hK9 => ?_
  refine swp_region ty_ok ?_
  refine runs_cut 1 fun R10 hR10 => ?_
  try simp (maxSteps := 1000000) [bk12, List.take_succ_cons, List.take_zero, List.drop_succ_cons, List.drop_zero]
  repeat' (first | apply And.intro | intro _)
  any_goals (first | (refine hR10 _ ?_; clear hR10) | (first | omega | (simp only [IntKind.wrap_i64] at *; omega) | (simp_all; done) | (simp_all; omega)))
  refine runs_cut 1 fun R11 hR11 => ?_
  try simp (maxSteps := 1000000) [bk12, List.take_succ_cons, List.take_zero, List.drop_succ_cons, List.drop_zero]
  refine .inl ⟨_, checked_12, ?_⟩
  try simp (maxSteps := 1000000) [bk12]
  repeat' (first | apply And.intro | intro _)
  any_goals (first | (refine hR11 _ ?_; clear hR11) | (first | omega | (simp only [IntKind.wrap_i64] at *; omega) | (simp_all; done) | (simp_all; omega)))
  try simp (maxSteps := 1000000) [bk12, List.take_succ_cons, List.take_zero, List.drop_succ_cons, List.drop_zero]
  repeat' (first | apply And.intro | intro _)
  any_goals (first | (refine hK9 _ ?_; clear hK9) | (first | omega | (simp only [IntKind.wrap_i64] at *; omega) | (simp_all; done) | (simp_all; omega)))
  refine swp_seq fun K12 hK12 => ?_
  refine swp_region ty_ok ?_
  try simp (maxSteps := 1000000) [bk12]
  repeat' (first | apply And.intro | intro _)
  any_goals (first | (refine hK12 _ ?_; clear hK12) | (first | omega | (simp only [IntKind.wrap_i64] at *; omega) | (simp_all; done) | (simp_all; omega)))
  refine swp_if fun C13 hC13 => ?_
  try simp (maxSteps := 1000000) [bk12]
  refine hC13 _ (fun hc13 => ?_) (fun hc13 => ?_)
  ·clear hC13
   try simp at hc13
   refine swp_seq fun K14 hK14 => ?_
   refine swp_region ty_ok ?_
   try simp (maxSteps := 1000000) [bk12]
   repeat' (first | apply And.intro | intro _)
   any_goals (first | (refine hK14 _ ?_; clear hK14) | (first | omega | (simp only [IntKind.wrap_i64] at *; omega) | (simp_all; done) | (simp_all; omega)))
   refine swp_ret ?_
   simp [fnPost, Try.results15, resP, tupOf]
  ·exact absurd hc13 (by simp)
 ·exact absurd hc7 (by simp)

theorem hput_bad (id p : Int) (es rs : List Int) (h : rightB id p es rs = false) (b vs : List Int) (q : Bool) (e : Int) (hfits : PCall Try.prog 21 [.int .i64 id, .ro (.ints .i64 vs)] (.tup [.bool q, .int .i64 e])) (hq : ¬ e = 0 ∨ q = false) : PCall Try.prog 15 [.ro (.ints .u8 b), .agg [.int .i64 id, .int .i64 p, .ro (.ints .i64 es), .ro (.ints .i64 rs)], .ro (.ints .i64 vs)] (.tup [.ro (.ints .u8 []), .int .i64 8]) := by
 refine pcall_body ty_ok Try.func15 rfl (by rfl) (by simp) ?_
 rw [Try.ntmps15]
 refine swp_seq fun K1 hK1 => ?_
 refine swp_region ty_ok ?_
 try simp (maxSteps := 1000000)
 repeat' (first | apply And.intro | intro _)
 any_goals (first | (refine hK1 _ ?_; clear hK1) | (first | omega | (simp only [IntKind.wrap_i64] at *; omega) | (simp_all; done) | (simp_all; omega)))
 refine swp_seq fun K2 hK2 => ?_
 refine swp_region ty_ok ?_
 refine runs_cut 3 fun R3 hR3 => ?_
 try simp (maxSteps := 1000000) [List.take_succ_cons, List.take_zero, List.drop_succ_cons, List.drop_zero]
 repeat' (first | apply And.intro | intro _)
 any_goals (first | (refine hR3 _ ?_; clear hR3) | (first | omega | (simp only [IntKind.wrap_i64] at *; omega) | (simp_all; done) | (simp_all; omega)))
 refine runs_cut 1 fun R4 hR4 => ?_
 try simp (maxSteps := 1000000) [List.take_succ_cons, List.take_zero, List.drop_succ_cons, List.drop_zero]
 refine .inl ⟨_, hfits, ?_⟩
 try simp (maxSteps := 1000000)
 repeat' (first | apply And.intro | intro _)
 any_goals (first | (refine hR4 _ ?_; clear hR4) | (first | omega | (simp only [IntKind.wrap_i64] at *; omega) | (simp_all; done) | (simp_all; omega)))
 try simp (maxSteps := 1000000) [List.take_succ_cons, List.take_zero, List.drop_succ_cons, List.drop_zero]
 repeat' (first | apply And.intro | intro _)
 any_goals (first | (refine hK2 _ ?_; clear hK2) | (first | omega | (simp only [IntKind.wrap_i64] at *; omega) | (simp_all; done) | (simp_all; omega)))
 refine swp_seq fun K5 hK5 => ?_
 refine swp_seq fun K6 hK6 => ?_
 refine swp_region ty_ok ?_
 try simp (maxSteps := 1000000)
 repeat' (first | apply And.intro | intro _)
 any_goals (first | (refine hK6 _ ?_; clear hK6) | (first | omega | (simp only [IntKind.wrap_i64] at *; omega) | (simp_all; done) | (simp_all; omega)))
 refine swp_if fun C7 hC7 => ?_
 try simp (maxSteps := 1000000)
 refine hC7 _ (fun hc7 => ?_) (fun hc7 => ?_)
 ·clear hC7
  try simp at hc7
  refine swp_seq fun K8 hK8 => ?_
  refine swp_seq fun K9 hK9 => ?_
  refine swp_region ty_ok ?_
  refine runs_cut 1 fun R10 hR10 => ?_
  try simp (maxSteps := 1000000) [List.take_succ_cons, List.take_zero, List.drop_succ_cons, List.drop_zero]
  repeat' (first | apply And.intro | intro _)
  any_goals (first | (refine hR10 _ ?_; clear hR10) | (first | omega | (simp only [IntKind.wrap_i64] at *; omega) | (simp_all; done) | (simp_all; omega)))
  refine runs_cut 1 fun R11 hR11 => ?_
  try simp (maxSteps := 1000000) [List.take_succ_cons, List.take_zero, List.drop_succ_cons, List.drop_zero]
  refine .inl ⟨_, checked_no id p es rs h, ?_⟩
  try simp (maxSteps := 1000000)
  repeat' (first | apply And.intro | intro _)
  any_goals (first | (refine hR11 _ ?_; clear hR11) | (first | omega | (simp only [IntKind.wrap_i64] at *; omega) | (simp_all; done) | (simp_all; omega)))
  try simp (maxSteps := 1000000) [List.take_succ_cons, List.take_zero, List.drop_succ_cons, List.drop_zero]
  repeat' (first | apply And.intro | intro _)
  any_goals (first | (refine hK9 _ ?_; clear hK9) | (first | omega | (simp only [IntKind.wrap_i64] at *; omega) | (simp_all; done) | (simp_all; omega)))
  refine swp_seq fun K12 hK12 => ?_
  refine swp_region ty_ok ?_
  try simp (maxSteps := 1000000)
  repeat' (first | apply And.intro | intro _)
  any_goals (first | (refine hK12 _ ?_; clear hK12) | (first | omega | (simp only [IntKind.wrap_i64] at *; omega) | (simp_all; done) | (simp_all; omega)))
  refine swp_if fun C13 hC13 => ?_
  try simp (maxSteps := 1000000)
  refine hC13 _ (fun hc13 => ?_) (fun hc13 => ?_)
  ·clear hC13
   try simp at hc13
   refine swp_seq fun K14 hK14 => ?_
   refine swp_region ty_ok ?_
   try simp (maxSteps := 1000000)
   repeat' (first | apply And.intro | intro _)
   any_goals (first | (refine hK14 _ ?_; clear hK14) | (first | omega | (simp only [IntKind.wrap_i64] at *; omega) | (simp_all; done) | (simp_all; omega)))
   refine swp_ret ?_
   simp [fnPost, Try.results15, resP, tupOf]
  ·exact absurd hc13 (by simp)
 ·exfalso
  have h9 := hc7
  simp at h9
  simp [h9] at hq

theorem cost_ok (id p : Int) (es rs vs x : List Int) (e : Int) (hx : x.length ≤ 140737488355328) (hput : PCall Try.prog 15 [.ro (.ints .u8 []), .agg [.int .i64 id, .int .i64 p, .ro (.ints .i64 es), .ro (.ints .i64 rs)], .ro (.ints .i64 vs)] (.tup [.ro (.ints .u8 x), .int .i64 e])) : PCall Try.prog 19 [.agg [.int .i64 id, .int .i64 p, .ro (.ints .i64 es), .ro (.ints .i64 rs)], .ro (.ints .i64 vs)] (.tup [.int .i64 x.length, .int .i64 e]) := by
 refine pcall_body ty_ok Try.func19 rfl (by rfl) (by simp) ?_
 rw [Try.ntmps19]
 refine swp_seq fun K1 hK1 => ?_
 refine swp_region ty_ok ?_
 try simp (maxSteps := 1000000)
 repeat' (first | apply And.intro | intro _)
 any_goals (first | (refine hK1 _ ?_; clear hK1) | (first | omega | (simp only [IntKind.wrap_i64] at *; omega) | (simp_all; done) | (simp_all; omega)))
 refine swp_seq fun K2 hK2 => ?_
 refine swp_region ty_ok ?_
 refine runs_cut 2 fun R3 hR3 => ?_
 try simp (maxSteps := 1000000) [List.take_succ_cons, List.take_zero, List.drop_succ_cons, List.drop_zero]
 repeat' (first | apply And.intro | intro _)
 any_goals (first | (refine hR3 _ ?_; clear hR3) | (first | omega | (simp only [IntKind.wrap_i64] at *; omega) | (simp_all; done) | (simp_all; omega)))
 refine runs_cut 1 fun R4 hR4 => ?_
 try simp (maxSteps := 1000000) [List.take_succ_cons, List.take_zero, List.drop_succ_cons, List.drop_zero]
 refine .inl ⟨_, hput, ?_⟩
 try simp (maxSteps := 1000000)
 repeat' (first | apply And.intro | intro _)
 any_goals (first | (refine hR4 _ ?_; clear hR4) | (first | omega | (simp only [IntKind.wrap_i64] at *; omega) | (simp_all; done) | (simp_all; omega)))
 try simp (maxSteps := 1000000) [List.take_succ_cons, List.take_zero, List.drop_succ_cons, List.drop_zero]
 repeat' (first | apply And.intro | intro _)
 any_goals (first | (refine hK2 _ ?_; clear hK2) | (first | omega | (simp only [IntKind.wrap_i64] at *; omega) | (simp_all; done) | (simp_all; omega)))
 refine swp_seq fun K5 hK5 => ?_
 refine swp_region ty_ok ?_
 try simp (maxSteps := 1000000)
 repeat' (first | apply And.intro | intro _)
 any_goals (first | (refine hK5 _ ?_; clear hK5) | (first | omega | (simp only [IntKind.wrap_i64] at *; omega) | (simp_all; done) | (simp_all; omega)))
 refine swp_ret ?_
 simp [fnPost, Try.results19, resP, tupOf]

end Go.Proofs.Ytgheplondkoedaa

