import Derived.Test.YtgheplondkoedaaWf
import Derived.Test.YtgheplondkoedaaTyh
import Derived.Test.YtgheplondkoedaaBkq
import Derived.Test.YtgheplondkoedaaHsrt
import Derived.Test.YtgheplondkoedaaHbk
import Derived.Test.YtgheplondkoedaaHbk2
import Derived.Test.YtgheplondkoedaaHbk3
import Derived.Test.YtgheplondkoedaaHbits
import Derived.Test.YtgheplondkoedaaHrd
import Derived.Test.YtgheplondkoedaaHrdq
import Derived.Test.YtgheplondkoedaaHbits2
import Derived.Test.YtgheplondkoedaaHbk4
import Derived.Test.YtgheplondkoedaaHbk5
import Derived.Test.YtgheplondkoedaaHbk6
import Derived.Test.YtgheplondkoedaaHbk8
import Derived.Test.YtgheplondkoedaaHbk9
import Derived.Test.YtgheplondkoedaaHgrow
import Derived.Test.YtgheplondkoedaaHst
import Derived.Test.YtgheplondkoedaaHrep
import Derived.Test.YtgheplondkoedaaHputh
import Derived.Test.YtgheplondkoedaaHft
import Derived.Test.YtgheplondkoedaaHpt
namespace Go.Proofs.Ytgheplondkoedaa
set_option linter.unusedVariables false
set_option linter.unusedSimpArgs false
set_option maxRecDepth 10000
open Go Go.Pv

open Go.RowKit
def rkE (i e : Nat) : Nat := (bRk i)[e]?.getD 0
/-- The bits of values that fit. -/
def huffL (i : Nat) (vs : List Int) : List Int := if hSig i = true then codeL (bPlain i) (rkE i (entN i vs)) else codeL (bPlain i) (rkE i (entN i (hTold i vs))) ++ hSg vs ++ hEs i vs
theorem code_len {i e : Nat} (h1 : 1 ≤ i) (h2 : i ≤ 12) (he : e < bMany i) : 1 ≤ (codeL (bPlain i) (rkE i e)).length ∧ (codeL (bPlain i) (rkE i e)).length ≤ 100 := by
  have hB := bk_ok h1 h2
  have hE := bke h1 h2
  have hm := hB.many
  have hp := hB.plain
  have hr := (hE.ra he).2
  have f := (codeF (p := bPlain i) (r := rkE i e) hp (by unfold rkE; omega)).m
  rw [codeL_len]
  omega
def tv (v : Int) : Int := IntKind.i64.wrap (-v)
theorem hput_ok (i : Nat) (h1 : 1 ≤ i) (h2 : i ≤ 11) (b vs : List Int) (hd : vs.length = bDim i) (hf : hFit i vs = true) (hb : b.length ≤ 1000000) : PCall Try.prog 15 [.ro (.ints .u8 b), bookV i, .ro (.ints .i64 vs)] (.tup [.ro (.ints .u8 (b ++ huffL i vs)), .int .i64 0]) := by
  unfold huffL
  cases hs : hSig i with
  | true =>
    rw [if_pos rfl]
    have he := (sig_ent h1 h2 hd hf hs).2.2
    exact putS_ok i h1 h2 _ _ _ b vs _ 0 hd hf (code_ok i h1 (by omega) _ he) rfl (code_len h1 (by omega) he) hb hs
  | false =>
    rw [if_neg (by simp)]
    have he := (told_ent h1 h2 hd hf hs).2.2
    have hc := code_ok i h1 (by omega) _ he
    have hl := code_len h1 (by omega : i ≤ 12) he
    rw [← List.append_assoc, ← List.append_assoc]
    by_cases h11 : i = 11
    · exact putU_ok_e i h1 h2 _ _ _ b vs _ 0 hd hf hc rfl hl hb hs h11
    · exact putU_ok_n i h1 h2 _ _ _ b vs _ 0 hd hf hc rfl hl hb hs h11
theorem hput_odd (i : Nat) (h1 : 1 ≤ i) (h2 : i ≤ 11) (p : Int) (es rs : List Int) (hr : rightB (i : Nat) p es rs = false) (b vs : List Int) (hd : vs.length = bDim i) (hf : hFit i vs = true) : PCall Try.prog 15 [.ro (.ints .u8 b), .agg [.int .i64 (i : Nat), .int .i64 p, .ro (.ints .i64 es), .ro (.ints .i64 rs)], .ro (.ints .i64 vs)] (.tup [.ro (.ints .u8 []), .int .i64 8]) := by
  cases hs : hSig i with
  | true => exact putS_no i h1 h2 p es rs b vs [] 8 hd hf (code_no (i : Nat) p es rs hr _) rfl hs
  | false =>
    by_cases h11 : i = 11
    · exact putU_no_e i h1 h2 p es rs b vs [] 8 hd hf (code_no (i : Nat) p es rs hr _) rfl hs h11
    · exact putU_no_n i h1 h2 p es rs b vs [] 8 hd hf (code_no (i : Nat) p es rs hr _) rfl hs h11

theorem a91 : PCall Try.prog 35 [.int .i64 1] (.tup [bookV 1, .int .i64 0]) := by
  exact get_book 1 (by omega) (by omega)
theorem a92 : PCall Try.prog 35 [.int .i64 11] (.tup [bookV 11, .int .i64 0]) := by
  exact get_book 11 (by omega) (by omega)
theorem a93 : PCall Try.prog 15 [.ro (.ints .u8 []), bookV 1, .ro (.ints .i64 [0, 0, 0, 0])] (.tup [.ro (.ints .u8 [1]), .int .i64 0]) := by
  have := hput_ok 1 (by omega) (by omega) [] [0, 0, 0, 0] rfl (by decide +kernel) (by simp)
  rw [show [] ++ huffL 1 [0, 0, 0, 0] = [1] from by decide +kernel] at this
  exact this
theorem a94 : PCall Try.prog 15 [.ro (.ints .u8 []), bookV 11, .ro (.ints .i64 [0, 0])] (.tup [.ro (.ints .u8 [1, 0, 0]), .int .i64 0]) := by
  have := hput_ok 11 (by omega) (by omega) [] [0, 0] rfl (by decide +kernel) (by simp)
  rw [show [] ++ huffL 11 [0, 0] = [1, 0, 0] from by decide +kernel] at this
  exact this

attribute [local simp] runs gd step1 need evu un opnds opv ev cst cst1 cstL getT getH putT onL nxt argT cellsOf PV.one thn inBlk jmp fldP ldP ldC live Cells.len Cells.get Cells.w sug ldv bin eqF eq1 ops2 sh2 binv Tk.agg stC apC rdS apS cpC cpS mvL zp argsP idx fillP toInts chunks mkC ixS ixA oidx slP sl0 slA optL List.append mxF bltn frzA frz frzL frz1 pur1 Cells.pur PV.scal scal1 runD rdO PV.ids id1 zids ety Eff.on cnd minb and1b ifmax ifmin mxv sugI strv w0 w1 w2 wm1
set_option maxHeartbeats 2000000 in
theorem alive9  : PCall Try.prog 34 [] (.bool true) := by
  refine pcall_body ty_ok Try.func34 rfl (by rfl) (by simp) ?_
  rw [Try.ntmps34]
  refine swp_seq fun K1 hK1 => ?_
  refine swp_region ty_ok ?_
  try simp (maxSteps := 1000000) [bookV]
  repeat' (first | apply And.intro | intro _)
  any_goals (first | (refine hK1 _ ?_; clear hK1) | (first | omega | (simp only [IntKind.wrap_i64] at *; omega) | (simp_all; done) | (simp_all; omega)))
  refine swp_seq fun K2 hK2 => ?_
  refine swp_region ty_ok ?_
  refine runs_cut 1 fun R3 hR3 => ?_
  try simp (maxSteps := 1000000) [bookV, List.take_succ_cons, List.take_zero, List.drop_succ_cons, List.drop_zero]
  refine .inl ⟨_, a91, ?_⟩
  try simp (maxSteps := 1000000) [bookV]
  repeat' (first | apply And.intro | intro _)
  any_goals (first | (refine hR3 _ ?_; clear hR3) | (first | omega | (simp only [IntKind.wrap_i64] at *; omega) | (simp_all; done) | (simp_all; omega)))
  try simp (maxSteps := 1000000) [bookV, List.take_succ_cons, List.take_zero, List.drop_succ_cons, List.drop_zero]
  repeat' (first | apply And.intro | intro _)
  any_goals (first | (refine hK2 _ ?_; clear hK2) | (first | omega | (simp only [IntKind.wrap_i64] at *; omega) | (simp_all; done) | (simp_all; omega)))
  refine swp_seq fun K4 hK4 => ?_
  refine swp_region ty_ok ?_
  refine runs_cut 1 fun R5 hR5 => ?_
  try simp (maxSteps := 1000000) [bookV, List.take_succ_cons, List.take_zero, List.drop_succ_cons, List.drop_zero]
  refine .inl ⟨_, a92, ?_⟩
  try simp (maxSteps := 1000000) [bookV]
  repeat' (first | apply And.intro | intro _)
  any_goals (first | (refine hR5 _ ?_; clear hR5) | (first | omega | (simp only [IntKind.wrap_i64] at *; omega) | (simp_all; done) | (simp_all; omega)))
  try simp (maxSteps := 1000000) [bookV, List.take_succ_cons, List.take_zero, List.drop_succ_cons, List.drop_zero]
  repeat' (first | apply And.intro | intro _)
  any_goals (first | (refine hK4 _ ?_; clear hK4) | (first | omega | (simp only [IntKind.wrap_i64] at *; omega) | (simp_all; done) | (simp_all; omega)))
  refine swp_seq fun K6 hK6 => ?_
  refine swp_region ty_ok ?_
  refine runs_cut 1 fun R7 hR7 => ?_
  try simp (maxSteps := 1000000) [bookV, List.take_succ_cons, List.take_zero, List.drop_succ_cons, List.drop_zero]
  repeat' (first | apply And.intro | intro _)
  any_goals (first | (refine hR7 _ ?_; clear hR7) | (first | omega | (simp only [IntKind.wrap_i64] at *; omega) | (simp_all; done) | (simp_all; omega)))
  refine runs_cut 1 fun R8 hR8 => ?_
  try simp (maxSteps := 1000000) [bookV, List.take_succ_cons, List.take_zero, List.drop_succ_cons, List.drop_zero]
  repeat' (first | apply And.intro | intro _)
  any_goals (first | (refine Or.inl (hR8 _ ?_); clear hR8) | (first | omega | (simp only [IntKind.wrap_i64] at *; omega) | (simp_all; done) | (simp_all; omega)))
  refine runs_cut 1 fun R9 hR9 => ?_
  try simp (maxSteps := 1000000) [bookV, List.take_succ_cons, List.take_zero, List.drop_succ_cons, List.drop_zero]
  refine .inl ⟨_, a93, ?_⟩
  try simp (maxSteps := 1000000) [bookV]
  repeat' (first | apply And.intro | intro _)
  any_goals (first | (refine hR9 _ ?_; clear hR9) | (first | omega | (simp only [IntKind.wrap_i64] at *; omega) | (simp_all; done) | (simp_all; omega)))
  try simp (maxSteps := 1000000) [bookV, List.take_succ_cons, List.take_zero, List.drop_succ_cons, List.drop_zero]
  repeat' (first | apply And.intro | intro _)
  any_goals (first | (refine hK6 _ ?_; clear hK6) | (first | omega | (simp only [IntKind.wrap_i64] at *; omega) | (simp_all; done) | (simp_all; omega)))
  refine swp_seq fun K10 hK10 => ?_
  refine swp_region ty_ok ?_
  refine runs_cut 1 fun R11 hR11 => ?_
  try simp (maxSteps := 1000000) [bookV, List.take_succ_cons, List.take_zero, List.drop_succ_cons, List.drop_zero]
  repeat' (first | apply And.intro | intro _)
  any_goals (first | (refine hR11 _ ?_; clear hR11) | (first | omega | (simp only [IntKind.wrap_i64] at *; omega) | (simp_all; done) | (simp_all; omega)))
  refine runs_cut 1 fun R12 hR12 => ?_
  try simp (maxSteps := 1000000) [bookV, List.take_succ_cons, List.take_zero, List.drop_succ_cons, List.drop_zero]
  repeat' (first | apply And.intro | intro _)
  any_goals (first | (refine Or.inl (hR12 _ ?_); clear hR12) | (first | omega | (simp only [IntKind.wrap_i64] at *; omega) | (simp_all; done) | (simp_all; omega)))
  refine runs_cut 1 fun R13 hR13 => ?_
  try simp (maxSteps := 1000000) [bookV, List.take_succ_cons, List.take_zero, List.drop_succ_cons, List.drop_zero]
  refine .inl ⟨_, a94, ?_⟩
  try simp (maxSteps := 1000000) [bookV]
  repeat' (first | apply And.intro | intro _)
  any_goals (first | (refine hR13 _ ?_; clear hR13) | (first | omega | (simp only [IntKind.wrap_i64] at *; omega) | (simp_all; done) | (simp_all; omega)))
  try simp (maxSteps := 1000000) [bookV, List.take_succ_cons, List.take_zero, List.drop_succ_cons, List.drop_zero]
  repeat' (first | apply And.intro | intro _)
  any_goals (first | (refine hK10 _ ?_; clear hK10) | (first | omega | (simp only [IntKind.wrap_i64] at *; omega) | (simp_all; done) | (simp_all; omega)))
  refine swp_seq fun K14 hK14 => ?_
  refine swp_region ty_ok ?_
  refine runs_cut 8 fun R15 hR15 => ?_
  try simp (maxSteps := 1000000) [bookV, List.take_succ_cons, List.take_zero, List.drop_succ_cons, List.drop_zero]
  repeat' (first | apply And.intro | intro _)
  any_goals (first | (refine hR15 _ ?_; clear hR15) | (first | omega | (simp only [IntKind.wrap_i64] at *; omega) | (simp_all; done) | (simp_all; omega)))
  refine runs_cut 8 fun R16 hR16 => ?_
  try simp (maxSteps := 1000000) [bookV, List.take_succ_cons, List.take_zero, List.drop_succ_cons, List.drop_zero]
  repeat' (first | apply And.intro | intro _)
  any_goals (first | (refine hR16 _ ?_; clear hR16) | (first | omega | (simp only [IntKind.wrap_i64] at *; omega) | (simp_all; done) | (simp_all; omega)))
  try simp (maxSteps := 1000000) [bookV, List.take_succ_cons, List.take_zero, List.drop_succ_cons, List.drop_zero]
  repeat' (first | apply And.intro | intro _)
  any_goals (first | (refine hK14 _ ?_; clear hK14) | (first | omega | (simp only [IntKind.wrap_i64] at *; omega) | (simp_all; done) | (simp_all; omega)))
  refine swp_ret ?_
  simp [fnPost, Try.results34, resP, tupOf]
  exact ⟨rfl, rfl⟩

theorem n91 : PCall Try.prog 21 [.int .i64 11, .ro (.ints .i64 [8191, 0])] (.tup [.bool true, .int .i64 0]) := by
  have := fits_ok 11 (by omega) (by omega) [8191, 0] rfl
  rw [show hFit 11 [8191, 0] = true from by decide +kernel] at this
  exact this
theorem n92 : PCall Try.prog 21 [.int .i64 11, .ro (.ints .i64 [8192, 0])] (.tup [.bool false, .int .i64 0]) := by
  have := fits_ok 11 (by omega) (by omega) [8192, 0] rfl
  rw [show hFit 11 [8192, 0] = false from by decide +kernel] at this
  exact this
theorem n93 : PCall Try.prog 21 [.int .i64 7, .ro (.ints .i64 [-7, 7])] (.tup [.bool true, .int .i64 0]) := by
  have := fits_ok 7 (by omega) (by omega) [-7, 7] rfl
  rw [show hFit 7 [-7, 7] = true from by decide +kernel] at this
  exact this
theorem n94 : PCall Try.prog 21 [.int .i64 12, .ro (.ints .i64 [0])] (.tup [.bool false, .int .i64 2]) := by
  exact fits_no 12 (by omega) [0]
theorem n95 : PCall Try.prog 24 [.ro (.ints .u8 []), .int .i64 0] (.tup [.ro (.ints .u8 [1]), .int .i64 0]) := by
  have := hstep_ok [] (by simp) 0 (by unfold St60; omega)
  rw [show [] ++ stepL 0 = [1] from by decide +kernel] at this
  exact this
theorem n96 : PCall Try.prog 26 [.ro (.ints .u8 [0, 1, 1]), .int .i64 0] (.tup [.int .i64 1, .int .i64 3, .int .i64 0]) := by
  have := hstepped_ok [0, 1, 1] 0 (by simp) (at255b (by simp)) (by omega)
  rw [show stV [0, 1, 1] 0 = 1 from by decide +kernel, show stP [0, 1, 1] 0 = 3 from by decide +kernel, show stE [0, 1, 1] 0 = 0 from by decide +kernel] at this
  exact this
theorem n97 : PCall Try.prog 24 [.ro (.ints .u8 []), .int .i64 61] (.tup [.ro (.ints .u8 []), .int .i64 2]) := by
  exact hstep_no [] 61 (by unfold St60; omega)
theorem n98 : PCall Try.prog 15 [.ro (.ints .u8 []), .agg [.int .i64 1, .int .i64 0, .ro (.ints .i64 []), .ro (.ints .i64 [])], .ro (.ints .i64 [0, 0, 0, 0])] (.tup [.ro (.ints .u8 []), .int .i64 8]) := by
  exact hput_odd 1 (by omega) (by omega) 0 [] [] (by decide +kernel) [] [0, 0, 0, 0] rfl (by decide +kernel)

set_option maxHeartbeats 4000000 in
theorem names9  : PCall Try.prog 11 [] (.bool true) := by
  refine pcall_body ty_ok Try.func11 rfl (by rfl) (by simp) ?_
  rw [Try.ntmps11]
  refine swp_seq fun K1 hK1 => ?_
  refine swp_region ty_ok ?_
  try simp (maxSteps := 1000000)
  repeat' (first | apply And.intro | intro _)
  any_goals (first | (refine hK1 _ ?_; clear hK1) | (first | omega | (simp only [IntKind.wrap_i64] at *; omega) | (simp_all; done) | (simp_all; omega)))
  refine swp_seq fun K2 hK2 => ?_
  refine swp_region ty_ok ?_
  refine runs_cut 1 fun R3 hR3 => ?_
  try simp (maxSteps := 1000000) [List.take_succ_cons, List.take_zero, List.drop_succ_cons, List.drop_zero]
  repeat' (first | apply And.intro | intro _)
  any_goals (first | (refine Or.inl (hR3 _ ?_); clear hR3) | (first | omega | (simp only [IntKind.wrap_i64] at *; omega) | (simp_all; done) | (simp_all; omega)))
  refine runs_cut 1 fun R4 hR4 => ?_
  try simp (maxSteps := 1000000) [List.take_succ_cons, List.take_zero, List.drop_succ_cons, List.drop_zero]
  refine .inl ⟨_, n91, ?_⟩
  try simp (maxSteps := 1000000)
  repeat' (first | apply And.intro | intro _)
  any_goals (first | (refine hR4 _ ?_; clear hR4) | (first | omega | (simp only [IntKind.wrap_i64] at *; omega) | (simp_all; done) | (simp_all; omega)))
  try simp (maxSteps := 1000000) [List.take_succ_cons, List.take_zero, List.drop_succ_cons, List.drop_zero]
  repeat' (first | apply And.intro | intro _)
  any_goals (first | (refine hK2 _ ?_; clear hK2) | (first | omega | (simp only [IntKind.wrap_i64] at *; omega) | (simp_all; done) | (simp_all; omega)))
  refine swp_seq fun K5 hK5 => ?_
  refine swp_region ty_ok ?_
  refine runs_cut 1 fun R6 hR6 => ?_
  try simp (maxSteps := 1000000) [List.take_succ_cons, List.take_zero, List.drop_succ_cons, List.drop_zero]
  repeat' (first | apply And.intro | intro _)
  any_goals (first | (refine Or.inl (hR6 _ ?_); clear hR6) | (first | omega | (simp only [IntKind.wrap_i64] at *; omega) | (simp_all; done) | (simp_all; omega)))
  refine runs_cut 1 fun R7 hR7 => ?_
  try simp (maxSteps := 1000000) [List.take_succ_cons, List.take_zero, List.drop_succ_cons, List.drop_zero]
  refine .inl ⟨_, n92, ?_⟩
  try simp (maxSteps := 1000000)
  repeat' (first | apply And.intro | intro _)
  any_goals (first | (refine hR7 _ ?_; clear hR7) | (first | omega | (simp only [IntKind.wrap_i64] at *; omega) | (simp_all; done) | (simp_all; omega)))
  try simp (maxSteps := 1000000) [List.take_succ_cons, List.take_zero, List.drop_succ_cons, List.drop_zero]
  repeat' (first | apply And.intro | intro _)
  any_goals (first | (refine hK5 _ ?_; clear hK5) | (first | omega | (simp only [IntKind.wrap_i64] at *; omega) | (simp_all; done) | (simp_all; omega)))
  refine swp_seq fun K8 hK8 => ?_
  refine swp_region ty_ok ?_
  refine runs_cut 1 fun R9 hR9 => ?_
  try simp (maxSteps := 1000000) [List.take_succ_cons, List.take_zero, List.drop_succ_cons, List.drop_zero]
  repeat' (first | apply And.intro | intro _)
  any_goals (first | (refine Or.inl (hR9 _ ?_); clear hR9) | (first | omega | (simp only [IntKind.wrap_i64] at *; omega) | (simp_all; done) | (simp_all; omega)))
  refine runs_cut 1 fun R10 hR10 => ?_
  try simp (maxSteps := 1000000) [List.take_succ_cons, List.take_zero, List.drop_succ_cons, List.drop_zero]
  refine .inl ⟨_, n93, ?_⟩
  try simp (maxSteps := 1000000)
  repeat' (first | apply And.intro | intro _)
  any_goals (first | (refine hR10 _ ?_; clear hR10) | (first | omega | (simp only [IntKind.wrap_i64] at *; omega) | (simp_all; done) | (simp_all; omega)))
  try simp (maxSteps := 1000000) [List.take_succ_cons, List.take_zero, List.drop_succ_cons, List.drop_zero]
  repeat' (first | apply And.intro | intro _)
  any_goals (first | (refine hK8 _ ?_; clear hK8) | (first | omega | (simp only [IntKind.wrap_i64] at *; omega) | (simp_all; done) | (simp_all; omega)))
  refine swp_seq fun K11 hK11 => ?_
  refine swp_region ty_ok ?_
  refine runs_cut 1 fun R12 hR12 => ?_
  try simp (maxSteps := 1000000) [List.take_succ_cons, List.take_zero, List.drop_succ_cons, List.drop_zero]
  repeat' (first | apply And.intro | intro _)
  any_goals (first | (refine Or.inl (hR12 _ ?_); clear hR12) | (first | omega | (simp only [IntKind.wrap_i64] at *; omega) | (simp_all; done) | (simp_all; omega)))
  refine runs_cut 1 fun R13 hR13 => ?_
  try simp (maxSteps := 1000000) [List.take_succ_cons, List.take_zero, List.drop_succ_cons, List.drop_zero]
  refine .inl ⟨_, n94, ?_⟩
  try simp (maxSteps := 1000000)
  repeat' (first | apply And.intro | intro _)
  any_goals (first | (refine hR13 _ ?_; clear hR13) | (first | omega | (simp only [IntKind.wrap_i64] at *; omega) | (simp_all; done) | (simp_all; omega)))
  try simp (maxSteps := 1000000) [List.take_succ_cons, List.take_zero, List.drop_succ_cons, List.drop_zero]
  repeat' (first | apply And.intro | intro _)
  any_goals (first | (refine hK11 _ ?_; clear hK11) | (first | omega | (simp only [IntKind.wrap_i64] at *; omega) | (simp_all; done) | (simp_all; omega)))
  refine swp_seq fun K14 hK14 => ?_
  refine swp_region ty_ok ?_
  refine runs_cut 1 fun R15 hR15 => ?_
  try simp (maxSteps := 1000000) [List.take_succ_cons, List.take_zero, List.drop_succ_cons, List.drop_zero]
  refine .inl ⟨_, n95, ?_⟩
  try simp (maxSteps := 1000000)
  repeat' (first | apply And.intro | intro _)
  any_goals (first | (refine hR15 _ ?_; clear hR15) | (first | omega | (simp only [IntKind.wrap_i64] at *; omega) | (simp_all; done) | (simp_all; omega)))
  try simp (maxSteps := 1000000) [List.take_succ_cons, List.take_zero, List.drop_succ_cons, List.drop_zero]
  repeat' (first | apply And.intro | intro _)
  any_goals (first | (refine hK14 _ ?_; clear hK14) | (first | omega | (simp only [IntKind.wrap_i64] at *; omega) | (simp_all; done) | (simp_all; omega)))
  refine swp_seq fun K16 hK16 => ?_
  refine swp_region ty_ok ?_
  refine runs_cut 1 fun R17 hR17 => ?_
  try simp (maxSteps := 1000000) [List.take_succ_cons, List.take_zero, List.drop_succ_cons, List.drop_zero]
  repeat' (first | apply And.intro | intro _)
  any_goals (first | (refine Or.inl (hR17 _ ?_); clear hR17) | (first | omega | (simp only [IntKind.wrap_i64] at *; omega) | (simp_all; done) | (simp_all; omega)))
  refine runs_cut 1 fun R18 hR18 => ?_
  try simp (maxSteps := 1000000) [List.take_succ_cons, List.take_zero, List.drop_succ_cons, List.drop_zero]
  refine .inl ⟨_, n96, ?_⟩
  try simp (maxSteps := 1000000)
  repeat' (first | apply And.intro | intro _)
  any_goals (first | (refine hR18 _ ?_; clear hR18) | (first | omega | (simp only [IntKind.wrap_i64] at *; omega) | (simp_all; done) | (simp_all; omega)))
  try simp (maxSteps := 1000000) [List.take_succ_cons, List.take_zero, List.drop_succ_cons, List.drop_zero]
  repeat' (first | apply And.intro | intro _)
  any_goals (first | (refine hK16 _ ?_; clear hK16) | (first | omega | (simp only [IntKind.wrap_i64] at *; omega) | (simp_all; done) | (simp_all; omega)))
  refine swp_seq fun K19 hK19 => ?_
  refine swp_region ty_ok ?_
  refine runs_cut 1 fun R20 hR20 => ?_
  try simp (maxSteps := 1000000) [List.take_succ_cons, List.take_zero, List.drop_succ_cons, List.drop_zero]
  refine .inl ⟨_, n97, ?_⟩
  try simp (maxSteps := 1000000)
  repeat' (first | apply And.intro | intro _)
  any_goals (first | (refine hR20 _ ?_; clear hR20) | (first | omega | (simp only [IntKind.wrap_i64] at *; omega) | (simp_all; done) | (simp_all; omega)))
  try simp (maxSteps := 1000000) [List.take_succ_cons, List.take_zero, List.drop_succ_cons, List.drop_zero]
  repeat' (first | apply And.intro | intro _)
  any_goals (first | (refine hK19 _ ?_; clear hK19) | (first | omega | (simp only [IntKind.wrap_i64] at *; omega) | (simp_all; done) | (simp_all; omega)))
  refine swp_seq fun K21 hK21 => ?_
  refine swp_region ty_ok ?_
  refine runs_cut 1 fun R22 hR22 => ?_
  try simp (maxSteps := 1000000) [List.take_succ_cons, List.take_zero, List.drop_succ_cons, List.drop_zero]
  repeat' (first | apply And.intro | intro _)
  any_goals (first | (refine hR22 _ ?_; clear hR22) | (first | omega | (simp only [IntKind.wrap_i64] at *; omega) | (simp_all; done) | (simp_all; omega)))
  refine runs_cut 1 fun R23 hR23 => ?_
  try simp (maxSteps := 1000000) [List.take_succ_cons, List.take_zero, List.drop_succ_cons, List.drop_zero]
  repeat' (first | apply And.intro | intro _)
  any_goals (first | (refine Or.inl (hR23 _ ?_); clear hR23) | (first | omega | (simp only [IntKind.wrap_i64] at *; omega) | (simp_all; done) | (simp_all; omega)))
  refine runs_cut 1 fun R24 hR24 => ?_
  try simp (maxSteps := 1000000) [List.take_succ_cons, List.take_zero, List.drop_succ_cons, List.drop_zero]
  refine .inl ⟨_, n98, ?_⟩
  try simp (maxSteps := 1000000)
  repeat' (first | apply And.intro | intro _)
  any_goals (first | (refine hR24 _ ?_; clear hR24) | (first | omega | (simp only [IntKind.wrap_i64] at *; omega) | (simp_all; done) | (simp_all; omega)))
  try simp (maxSteps := 1000000) [List.take_succ_cons, List.take_zero, List.drop_succ_cons, List.drop_zero]
  repeat' (first | apply And.intro | intro _)
  any_goals (first | (refine hK21 _ ?_; clear hK21) | (first | omega | (simp only [IntKind.wrap_i64] at *; omega) | (simp_all; done) | (simp_all; omega)))
  refine swp_seq fun K25 hK25 => ?_
  refine swp_region ty_ok ?_
  refine runs_cut 1 fun R26 hR26 => ?_
  try simp (maxSteps := 1000000) [List.take_succ_cons, List.take_zero, List.drop_succ_cons, List.drop_zero]
  repeat' (first | apply And.intro | intro _)
  any_goals (first | (refine hR26 _ ?_; clear hR26) | (first | omega | (simp only [IntKind.wrap_i64] at *; omega) | (simp_all; done) | (simp_all; omega)))
  refine runs_cut 1 fun R27 hR27 => ?_
  try simp (maxSteps := 1000000) [List.take_succ_cons, List.take_zero, List.drop_succ_cons, List.drop_zero]
  first | refine .inl ⟨_, fun hb => .inl ⟨alive9, rfl⟩, ?_⟩ | refine .inl ⟨_, .inl ⟨alive9, rfl⟩, ?_⟩ | refine .inl ⟨_, fun hb => .inl (alive9), ?_⟩ | refine .inl ⟨_, .inl (alive9), ?_⟩ | refine .inl ⟨_, by (intros; exact Or.inl (alive9)), ?_⟩ | refine .inl ⟨_, by (intros; exact Or.inl ⟨alive9, rfl⟩), ?_⟩ | refine .inl ⟨_, fun hb => .inl ⟨_, alive9, by (try simp); exact ⟨rfl, rfl⟩⟩, ?_⟩
  repeat' (first | apply And.intro | intro _)
  any_goals (first | (refine hR27 _ ?_; clear hR27) | (first | omega | (simp only [IntKind.wrap_i64] at *; omega) | (simp_all; done) | (simp_all; omega)))
  refine runs_cut 11 fun R28 hR28 => ?_
  try simp (maxSteps := 1000000) [List.take_succ_cons, List.take_zero, List.drop_succ_cons, List.drop_zero]
  repeat' (first | apply And.intro | intro _)
  any_goals (first | (refine hR28 _ ?_; clear hR28) | (first | omega | (simp only [IntKind.wrap_i64] at *; omega) | (simp_all; done) | (simp_all; omega)))
  refine runs_cut 11 fun R29 hR29 => ?_
  try simp (maxSteps := 1000000) [List.take_succ_cons, List.take_zero, List.drop_succ_cons, List.drop_zero]
  repeat' (first | apply And.intro | intro _)
  any_goals (first | (refine hR29 _ ?_; clear hR29) | (first | omega | (simp only [IntKind.wrap_i64] at *; omega) | (simp_all; done) | (simp_all; omega)))
  refine runs_cut 12 fun R30 hR30 => ?_
  try simp (maxSteps := 1000000) [List.take_succ_cons, List.take_zero, List.drop_succ_cons, List.drop_zero]
  repeat' (first | apply And.intro | intro _)
  any_goals (first | (refine hR30 _ ?_; clear hR30) | (first | omega | (simp only [IntKind.wrap_i64] at *; omega) | (simp_all; done) | (simp_all; omega)))
  refine runs_cut 11 fun R31 hR31 => ?_
  try simp (maxSteps := 1000000) [List.take_succ_cons, List.take_zero, List.drop_succ_cons, List.drop_zero]
  repeat' (first | apply And.intro | intro _)
  any_goals (first | (refine hR31 _ ?_; clear hR31) | (first | omega | (simp only [IntKind.wrap_i64] at *; omega) | (simp_all; done) | (simp_all; omega)))
  try simp (maxSteps := 1000000) [List.take_succ_cons, List.take_zero, List.drop_succ_cons, List.drop_zero]
  repeat' (first | apply And.intro | intro _)
  any_goals (first | (refine hK25 _ ?_; clear hK25) | (first | omega | (simp only [IntKind.wrap_i64] at *; omega) | (simp_all; done) | (simp_all; omega)))
  refine swp_ret ?_
  simp [fnPost, Try.results11, resP, tupOf]
  rfl

end Go.Proofs.Ytgheplondkoedaa

