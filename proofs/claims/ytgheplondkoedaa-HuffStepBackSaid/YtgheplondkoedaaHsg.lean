import Derived.Test.YtgheplondkoedaaWf
import Derived.Test.YtgheplondkoedaaTyh
import Derived.Test.YtgheplondkoedaaBkq
import Derived.Test.YtgheplondkoedaaHsrt
import Derived.Test.YtgheplondkoedaaHbk
import Derived.Test.YtgheplondkoedaaHbk2
import Derived.Test.YtgheplondkoedaaHbk3
import Derived.Test.YtgheplondkoedaaHbits
import Derived.Test.YtgheplondkoedaaHrd
import Derived.Test.YtgheplondkoedaaHrdq
import Derived.Test.YtgheplondkoedaaHbits2
import Derived.Test.YtgheplondkoedaaHbk4
import Derived.Test.YtgheplondkoedaaHbk5
import Derived.Test.YtgheplondkoedaaHbk6
import Derived.Test.YtgheplondkoedaaHbk8
import Derived.Test.YtgheplondkoedaaHbk9
import Derived.Test.YtgheplondkoedaaHgrow
import Derived.Test.YtgheplondkoedaaHst
import Derived.Test.YtgheplondkoedaaHrep
import Derived.Test.YtgheplondkoedaaHputh
import Derived.Test.YtgheplondkoedaaHft
import Derived.Test.YtgheplondkoedaaHpt
namespace Go.Proofs.Ytgheplondkoedaa
set_option linter.unusedVariables false
set_option linter.unusedSimpArgs false
set_option maxRecDepth 10000
open Go Go.Pv

open Go.RowKit
def rkE (i e : Nat) : Nat := (bRk i)[e]?.getD 0
/-- The bits of values that fit. -/
def huffL (i : Nat) (vs : List Int) : List Int := if hSig i = true then codeL (bPlain i) (rkE i (entN i vs)) else codeL (bPlain i) (rkE i (entN i (hTold i vs))) ++ hSg vs ++ hEs i vs
theorem code_len {i e : Nat} (h1 : 1 ≤ i) (h2 : i ≤ 12) (he : e < bMany i) : 1 ≤ (codeL (bPlain i) (rkE i e)).length ∧ (codeL (bPlain i) (rkE i e)).length ≤ 100 := by
  have hB := bk_ok h1 h2
  have hE := bke h1 h2
  have hm := hB.many
  have hp := hB.plain
  have hr := (hE.ra he).2
  have f := (codeF (p := bPlain i) (r := rkE i e) hp (by unfold rkE; omega)).m
  rw [codeL_len]
  omega
def tv (v : Int) : Int := IntKind.i64.wrap (-v)
theorem rkS_at {i r : Nat} (hr : r < 121) : rkS (((bEnt 12)[r]?.getD 0 : Nat) - 60 : Int) = r := by
  have hE := bke (i := 12) (by omega) (by omega)
  unfold rkS
  rw [show ((((bEnt 12)[r]?.getD 0 : Nat) : Int) - 60 + 60).toNat = (bEnt 12)[r]?.getD 0 by omega]
  exact hE.er r hr
theorem step_back {d : Int} (h : St60 d) (be : List Int) : stE (stepL d ++ be) 0 = 0 ∧ stV (stepL d ++ be) 0 = d ∧ stP (stepL d ++ be) 0 = ((stepL d).length : Nat) := by
  have hE := bke (i := 12) (by omega) (by omega)
  have hF := stepF h
  obtain ⟨c1, c2, c3⟩ := code_read (p := 0) (r := rkS d) (es := bE 12) (be := be) (by omega) (by have := hF.r; omega) (by rw [bE12]; exact hF.r)
  rw [bE12] at c1
  have c1' : stE (stepL d ++ be) 0 = 0 := c1
  refine ⟨c1', ?_, c3⟩
  unfold stV
  rw [if_pos c1']
  have e : fdN 0 (bE 12) (stepL d ++ be) 0 = _ := c2
  rw [e, (hE.ea hF.r).1]
  have : (bEnt 12)[rkS d]?.getD 0 = (d + 60).toNat := hE.re _ hF.m
  rw [this]
  unfold St60 at h
  omega
theorem step_got {b : List Int} {at_ : Int} (hb : ∀ k : Nat, 0 ≤ b[k]?.getD 0 ∧ b[k]?.getD 0 ≤ 255) (h : stE b at_ = 0) : St60 (stV b at_) ∧ ∃ n : Nat, at_ = n ∧ stP b at_ = (n : Int) + ((stepL (stV b at_)).length : Nat) ∧ n + (stepL (stV b at_)).length ≤ b.length ∧ (b.drop n).take (stepL (stV b at_)).length = stepL (stV b at_) := by
  have hE := bke (i := 12) (by omega) (by omega)
  have h' : fdE 0 (bE 12).length b at_ = 0 := by rw [bE12]; exact h
  obtain ⟨r, hr, h1, h2, h3, h4, h5⟩ := read_code (p := 0) (es := bE 12) (by omega) hb (by rw [bE12]; omega) h'
  rw [bE12] at hr
  obtain ⟨a, c⟩ := hE.ea (r := r) hr
  have c' : (bEnt 12)[r]?.getD 0 < 121 := c
  have hv : stV b at_ = (((bEnt 12)[r]?.getD 0 : Nat) : Int) - 60 := by
    unfold stV
    rw [if_pos h, h1, a]
  have hs : stepL (stV b at_) = codeL 0 r := by
    unfold stepL
    rw [hv, rkS_at (i := 12) hr]
  obtain ⟨n, hn⟩ := Int.eq_ofNat_of_zero_le h2
  refine ⟨by rw [hv]; unfold St60; omega, n, hn, ?_, ?_, ?_⟩
  · rw [hs, ← hn]; exact h3
  · rw [hs]; omega
  · rw [hs]
    rw [hn, Int.toNat_natCast] at h5
    exact h5

theorem hput_ok (i : Nat) (h1 : 1 ≤ i) (h2 : i ≤ 11) (b vs : List Int) (hd : vs.length = bDim i) (hf : hFit i vs = true) (hb : b.length ≤ 1000000) : PCall Try.prog 15 [.ro (.ints .u8 b), bookV i, .ro (.ints .i64 vs)] (.tup [.ro (.ints .u8 (b ++ huffL i vs)), .int .i64 0]) := by
  unfold huffL
  cases hs : hSig i with
  | true =>
    rw [if_pos rfl]
    have he := (sig_ent h1 h2 hd hf hs).2.2
    exact putS_ok i h1 h2 _ _ _ b vs _ 0 hd hf (code_ok i h1 (by omega) _ he) rfl (code_len h1 (by omega) he) hb hs
  | false =>
    rw [if_neg (by simp)]
    have he := (told_ent h1 h2 hd hf hs).2.2
    have hc := code_ok i h1 (by omega) _ he
    have hl := code_len h1 (by omega : i ≤ 12) he
    rw [← List.append_assoc, ← List.append_assoc]
    by_cases h11 : i = 11
    · exact putU_ok_e i h1 h2 _ _ _ b vs _ 0 hd hf hc rfl hl hb hs h11
    · exact putU_ok_n i h1 h2 _ _ _ b vs _ 0 hd hf hc rfl hl hb hs h11
theorem a91 : PCall Try.prog 35 [.int .i64 1] (.tup [bookV 1, .int .i64 0]) := by
  exact get_book 1 (by omega) (by omega)
theorem a92 : PCall Try.prog 35 [.int .i64 11] (.tup [bookV 11, .int .i64 0]) := by
  exact get_book 11 (by omega) (by omega)
theorem a93 : PCall Try.prog 15 [.ro (.ints .u8 []), bookV 1, .ro (.ints .i64 [0, 0, 0, 0])] (.tup [.ro (.ints .u8 [1]), .int .i64 0]) := by
  have := hput_ok 1 (by omega) (by omega) [] [0, 0, 0, 0] rfl (by decide +kernel) (by simp)
  rw [show [] ++ huffL 1 [0, 0, 0, 0] = [1] from by decide +kernel] at this
  exact this
theorem a94 : PCall Try.prog 15 [.ro (.ints .u8 []), bookV 11, .ro (.ints .i64 [0, 0])] (.tup [.ro (.ints .u8 [1, 0, 0]), .int .i64 0]) := by
  have := hput_ok 11 (by omega) (by omega) [] [0, 0] rfl (by decide +kernel) (by simp)
  rw [show [] ++ huffL 11 [0, 0] = [1, 0, 0] from by decide +kernel] at this
  exact this

attribute [local simp] runs gd step1 need evu un opnds opv ev cst cst1 cstL getT getH putT onL nxt argT cellsOf PV.one thn inBlk jmp fldP ldP ldC live Cells.len Cells.get Cells.w sug ldv bin eqF eq1 ops2 sh2 binv Tk.agg stC apC rdS apS cpC cpS mvL zp argsP idx fillP toInts chunks mkC ixS ixA oidx slP sl0 slA optL List.append mxF bltn frzA frz frzL frz1 pur1 Cells.pur PV.scal scal1 runD rdO PV.ids id1 zids ety Eff.on cnd minb and1b ifmax ifmin mxv sugI strv w0 w1 w2 wm1
set_option maxHeartbeats 2000000 in
theorem alive9  : PCall Try.prog 34 [] (.bool true) := by
  refine pcall_body ty_ok Try.func34 rfl (by rfl) (by simp) ?_
  rw [Try.ntmps34]
  refine swp_seq fun K1 hK1 => ?_
  refine swp_region ty_ok ?_
  try simp (maxSteps := 1000000) [bookV]
  repeat' (first | apply And.intro | intro _)
  any_goals (first | (refine hK1 _ ?_; clear hK1) | (first | omega | (simp only [IntKind.wrap_i64] at *; omega) | (simp_all; done) | (simp_all; omega)))
  refine swp_seq fun K2 hK2 => ?_
  refine swp_region ty_ok ?_
  refine runs_cut 1 fun R3 hR3 => ?_
  try simp (maxSteps := 1000000) [bookV, List.take_succ_cons, List.take_zero, List.drop_succ_cons, List.drop_zero]
  refine .inl ⟨_, a91, ?_⟩
  try simp (maxSteps := 1000000) [bookV]
  repeat' (first | apply And.intro | intro _)
  any_goals (first | (refine hR3 _ ?_; clear hR3) | (first | omega | (simp only [IntKind.wrap_i64] at *; omega) | (simp_all; done) | (simp_all; omega)))
  try simp (maxSteps := 1000000) [bookV, List.take_succ_cons, List.take_zero, List.drop_succ_cons, List.drop_zero]
  repeat' (first | apply And.intro | intro _)
  any_goals (first | (refine hK2 _ ?_; clear hK2) | (first | omega | (simp only [IntKind.wrap_i64] at *; omega) | (simp_all; done) | (simp_all; omega)))
  refine swp_seq fun K4 hK4 => ?_
  refine swp_region ty_ok ?_
  refine runs_cut 1 fun R5 hR5 => ?_
  try simp (maxSteps := 1000000) [bookV, List.take_succ_cons, List.take_zero, List.drop_succ_cons, List.drop_zero]
  refine .inl ⟨_, a92, ?_⟩
  try simp (maxSteps := 1000000) [bookV]
  repeat' (first | apply And.intro | intro _)
  any_goals (first | (refine hR5 _ ?_; clear hR5) | (first | omega | (simp only [IntKind.wrap_i64] at *; omega) | (simp_all; done) | (simp_all; omega)))
  try simp (maxSteps := 1000000) [bookV, List.take_succ_cons, List.take_zero, List.drop_succ_cons, List.drop_zero]
  repeat' (first | apply And.intro | intro _)
  any_goals (first | (refine hK4 _ ?_; clear hK4) | (first | omega | (simp only [IntKind.wrap_i64] at *; omega) | (simp_all; done) | (simp_all; omega)))
  refine swp_seq fun K6 hK6 => ?_
  refine swp_region ty_ok ?_
  refine runs_cut 1 fun R7 hR7 => ?_
  try simp (maxSteps := 1000000) [bookV, List.take_succ_cons, List.take_zero, List.drop_succ_cons, List.drop_zero]
  repeat' (first | apply And.intro | intro _)
  any_goals (first | (refine hR7 _ ?_; clear hR7) | (first | omega | (simp only [IntKind.wrap_i64] at *; omega) | (simp_all; done) | (simp_all; omega)))
  refine runs_cut 1 fun R8 hR8 => ?_
  try simp (maxSteps := 1000000) [bookV, List.take_succ_cons, List.take_zero, List.drop_succ_cons, List.drop_zero]
  repeat' (first | apply And.intro | intro _)
  any_goals (first | (refine Or.inl (hR8 _ ?_); clear hR8) | (first | omega | (simp only [IntKind.wrap_i64] at *; omega) | (simp_all; done) | (simp_all; omega)))
  refine runs_cut 1 fun R9 hR9 => ?_
  try simp (maxSteps := 1000000) [bookV, List.take_succ_cons, List.take_zero, List.drop_succ_cons, List.drop_zero]
  refine .inl ⟨_, a93, ?_⟩
  try simp (maxSteps := 1000000) [bookV]
  repeat' (first | apply And.intro | intro _)
  any_goals (first | (refine hR9 _ ?_; clear hR9) | (first | omega | (simp only [IntKind.wrap_i64] at *; omega) | (simp_all; done) | (simp_all; omega)))
  try simp (maxSteps := 1000000) [bookV, List.take_succ_cons, List.take_zero, List.drop_succ_cons, List.drop_zero]
  repeat' (first | apply And.intro | intro _)
  any_goals (first | (refine hK6 _ ?_; clear hK6) | (first | omega | (simp only [IntKind.wrap_i64] at *; omega) | (simp_all; done) | (simp_all; omega)))
  refine swp_seq fun K10 hK10 => ?_
  refine swp_region ty_ok ?_
  refine runs_cut 1 fun R11 hR11 => ?_
  try simp (maxSteps := 1000000) [bookV, List.take_succ_cons, List.take_zero, List.drop_succ_cons, List.drop_zero]
  repeat' (first | apply And.intro | intro _)
  any_goals (first | (refine hR11 _ ?_; clear hR11) | (first | omega | (simp only [IntKind.wrap_i64] at *; omega) | (simp_all; done) | (simp_all; omega)))
  refine runs_cut 1 fun R12 hR12 => ?_
  try simp (maxSteps := 1000000) [bookV, List.take_succ_cons, List.take_zero, List.drop_succ_cons, List.drop_zero]
  repeat' (first | apply And.intro | intro _)
  any_goals (first | (refine Or.inl (hR12 _ ?_); clear hR12) | (first | omega | (simp only [IntKind.wrap_i64] at *; omega) | (simp_all; done) | (simp_all; omega)))
  refine runs_cut 1 fun R13 hR13 => ?_
  try simp (maxSteps := 1000000) [bookV, List.take_succ_cons, List.take_zero, List.drop_succ_cons, List.drop_zero]
  refine .inl ⟨_, a94, ?_⟩
  try simp (maxSteps := 1000000) [bookV]
  repeat' (first | apply And.intro | intro _)
  any_goals (first | (refine hR13 _ ?_; clear hR13) | (first | omega | (simp only [IntKind.wrap_i64] at *; omega) | (simp_all; done) | (simp_all; omega)))
  try simp (maxSteps := 1000000) [bookV, List.take_succ_cons, List.take_zero, List.drop_succ_cons, List.drop_zero]
  repeat' (first | apply And.intro | intro _)
  any_goals (first | (refine hK10 _ ?_; clear hK10) | (first | omega | (simp only [IntKind.wrap_i64] at *; omega) | (simp_all; done) | (simp_all; omega)))
  refine swp_seq fun K14 hK14 => ?_
  refine swp_region ty_ok ?_
  refine runs_cut 8 fun R15 hR15 => ?_
  try simp (maxSteps := 1000000) [bookV, List.take_succ_cons, List.take_zero, List.drop_succ_cons, List.drop_zero]
  repeat' (first | apply And.intro | intro _)
  any_goals (first | (refine hR15 _ ?_; clear hR15) | (first | omega | (simp only [IntKind.wrap_i64] at *; omega) | (simp_all; done) | (simp_all; omega)))
  refine runs_cut 8 fun R16 hR16 => ?_
  try simp (maxSteps := 1000000) [bookV, List.take_succ_cons, List.take_zero, List.drop_succ_cons, List.drop_zero]
  repeat' (first | apply And.intro | intro _)
  any_goals (first | (refine hR16 _ ?_; clear hR16) | (first | omega | (simp only [IntKind.wrap_i64] at *; omega) | (simp_all; done) | (simp_all; omega)))
  try simp (maxSteps := 1000000) [bookV, List.take_succ_cons, List.take_zero, List.drop_succ_cons, List.drop_zero]
  repeat' (first | apply And.intro | intro _)
  any_goals (first | (refine hK14 _ ?_; clear hK14) | (first | omega | (simp only [IntKind.wrap_i64] at *; omega) | (simp_all; done) | (simp_all; omega)))
  refine swp_ret ?_
  simp [fnPost, Try.results34, resP, tupOf]
  exact ⟨rfl, rfl⟩

set_option maxHeartbeats 4000000 in
theorem stepback_y (d : Int) (be b : List Int) (at_ : Int) (hbe : ∀ y ∈ be, 0 ≤ y ∧ y ≤ 255) (hb : ∀ k : Nat, 0 ≤ b[k]?.getD 0 ∧ b[k]?.getD 0 ≤ 255) (hat : -9223372036854775808 ≤ at_ ∧ at_ ≤ 9223372036854775807) (hd : St60 d) : PCall Try.prog 12 [.int .i64 d, .ro (.ints .u8 be), .ro (.ints .u8 b), .int .i64 at_] (.bool true) := by
  have hd0 := hd
  unfold St60 at hd0
  obtain ⟨b1, b2, b3⟩ := step_back hd be
  have hsl := stepL_len hd
  have hstep := hstep_ok [] (by simp) d hd
  have hbits : ∀ k : Nat, 0 ≤ (stepL d ++ be)[k]?.getD 0 ∧ (stepL d ++ be)[k]?.getD 0 ≤ 255 := at255b fun x hx => by
    rcases List.mem_append.1 hx with h | h
    · have := codeL_bits _ _ x h; omega
    · exact hbe x h
  obtain ⟨C, hC⟩ : ∃ C, stepL d = C := ⟨_, rfl⟩
  rw [hC] at b1 b2 b3 hsl hstep hbits
  refine pcall_body ty_ok Try.func12 rfl (by rfl) (by simp) ?_
  rw [Try.ntmps12]
  refine swp_seq fun K1 hK1 => ?_
  refine swp_region ty_ok ?_
  try simp (maxSteps := 1000000)
  repeat' (first | apply And.intro | intro _)
  any_goals (first | (refine hK1 _ ?_; clear hK1) | (first | omega | (simp only [IntKind.wrap_i64] at *; omega) | (simp_all; done) | (simp_all; omega)))
  refine swp_seq fun K2 hK2 => ?_
  refine swp_region ty_ok ?_
  refine runs_cut 1 fun R3 hR3 => ?_
  try simp (maxSteps := 1000000) [List.take_succ_cons, List.take_zero, List.drop_succ_cons, List.drop_zero]
  refine .inl ⟨_, alive9, ?_⟩
  try simp (maxSteps := 1000000)
  repeat' (first | apply And.intro | intro _)
  any_goals (first | (refine hR3 _ ?_; clear hR3) | (first | omega | (simp only [IntKind.wrap_i64] at *; omega) | (simp_all; done) | (simp_all; omega)))
  try simp (maxSteps := 1000000) [List.take_succ_cons, List.take_zero, List.drop_succ_cons, List.drop_zero]
  repeat' (first | apply And.intro | intro _)
  any_goals (first | (refine hK2 _ ?_; clear hK2) | (first | omega | (simp only [IntKind.wrap_i64] at *; omega) | (simp_all; done) | (simp_all; omega)))
  refine swp_seq fun K4 hK4 => ?_
  refine swp_seq fun K5 hK5 => ?_
  refine swp_region ty_ok ?_
  try simp (maxSteps := 1000000)
  repeat' (first | apply And.intro | intro _)
  any_goals (first | (refine hK5 _ ?_; clear hK5) | (first | omega | (simp only [IntKind.wrap_i64] at *; omega) | (simp_all; done) | (simp_all; omega)))
  refine swp_if fun C6 hC6 => ?_
  try simp (maxSteps := 1000000)
  refine hC6 _ (fun hc6 => ?_) (fun hc6 => ?_)
  · clear hC6
    try simp at hc6
    refine swp_seq fun K7 hK7 => ?_
    refine swp_region ty_ok ?_
    try simp (maxSteps := 1000000)
    repeat' (first | apply And.intro | intro _)
    any_goals (first | (refine hK7 _ ?_; clear hK7) | (first | omega | (simp only [IntKind.wrap_i64] at *; omega) | (simp_all; done) | (simp_all; omega)))
    refine swp_ret ?_
    simp [fnPost, Try.results12, resP, tupOf]
  · clear hC6
    try simp at hc6
    refine swp_skip ?_
    try simp only [thn, inBlk]
    refine hK4 _ ?_; clear hK4
    refine swp_seq fun K8 hK8 => ?_
    refine swp_region ty_ok ?_
    refine runs_cut 1 fun R9 hR9 => ?_
    try simp (maxSteps := 1000000) [List.take_succ_cons, List.take_zero, List.drop_succ_cons, List.drop_zero]
    repeat' (first | apply And.intro | intro _)
    any_goals (first | (refine hR9 _ ?_; clear hR9) | (first | omega | (simp only [IntKind.wrap_i64] at *; omega) | (simp_all; done) | (simp_all; omega)))
    refine runs_cut 1 fun R10 hR10 => ?_
    try simp (maxSteps := 1000000) [List.take_succ_cons, List.take_zero, List.drop_succ_cons, List.drop_zero]
    refine .inl ⟨_, hstep, ?_⟩
    try simp (maxSteps := 1000000)
    repeat' (first | apply And.intro | intro _)
    any_goals (first | (refine hR10 _ ?_; clear hR10) | (first | omega | (simp only [IntKind.wrap_i64] at *; omega) | (simp_all; done) | (simp_all; omega)))
    try simp (maxSteps := 1000000) [List.take_succ_cons, List.take_zero, List.drop_succ_cons, List.drop_zero]
    repeat' (first | apply And.intro | intro _)
    any_goals (first | (refine hK8 _ ?_; clear hK8) | (first | omega | (simp only [IntKind.wrap_i64] at *; omega) | (simp_all; done) | (simp_all; omega)))
    refine swp_seq fun K11 hK11 => ?_
    refine swp_seq fun K12 hK12 => ?_
    refine swp_region ty_ok ?_
    try simp (maxSteps := 1000000)
    repeat' (first | apply And.intro | intro _)
    any_goals (first | (refine hK12 _ ?_; clear hK12) | (first | omega | (simp only [IntKind.wrap_i64] at *; omega) | (simp_all; done) | (simp_all; omega)))
    refine swp_if fun C13 hC13 => ?_
    try simp (maxSteps := 1000000)
    refine hC13 _ (fun hc13 => ?_) (fun hc13 => ?_)
    · exfalso
      have h := hc13
      simp at h
      omega
    · clear hC13
      try simp at hc13
      refine swp_skip ?_
      try simp only [thn, inBlk]
      refine hK11 _ ?_; clear hK11
      refine swp_seq fun K14 hK14 => ?_
      refine swp_seq fun K15 hK15 => ?_
      refine swp_region ty_ok ?_
      try simp (maxSteps := 1000000)
      repeat' (first | apply And.intro | intro _)
      any_goals (first | (refine hK15 _ ?_; clear hK15) | (first | omega | (simp only [IntKind.wrap_i64] at *; omega) | (simp_all; done) | (simp_all; omega)))
      refine swp_if fun C16 hC16 => ?_
      try simp (maxSteps := 1000000)
      refine hC16 _ (fun hc16 => ?_) (fun hc16 => ?_)
      · clear hC16
        try simp at hc16
        refine swp_seq fun K17 hK17 => ?_
        refine swp_region ty_ok ?_
        refine runs_cut 1 fun R18 hR18 => ?_
        try simp (maxSteps := 1000000) [List.take_succ_cons, List.take_zero, List.drop_succ_cons, List.drop_zero]
        repeat' (first | apply And.intro | intro _)
        any_goals (first | (refine Or.inr (hR18 _ ?_); clear hR18) | (first | omega | (simp only [IntKind.wrap_i64] at *; omega) | (simp_all; done) | (simp_all; omega)))
        refine runs_cut 4 fun R19 hR19 => ?_
        try simp (maxSteps := 1000000) [List.take_succ_cons, List.take_zero, List.drop_succ_cons, List.drop_zero]
        repeat' (first | apply And.intro | intro _)
        any_goals (first | (refine hR19 _ ?_; clear hR19) | (first | omega | (simp only [IntKind.wrap_i64] at *; omega) | (simp_all; done) | (simp_all; omega)))
        refine runs_cut 1 fun R20 hR20 => ?_
        try simp (maxSteps := 1000000) [List.take_succ_cons, List.take_zero, List.drop_succ_cons, List.drop_zero]
        refine .inl ⟨_, (by have := hstepped_ok (C ++ be) 0 (by rw [List.length_append]; omega) hbits (by omega); rw [b1, b2, b3] at this; exact this), ?_⟩
        try simp (maxSteps := 1000000)
        repeat' (first | apply And.intro | intro _)
        any_goals (first | (refine hR20 _ ?_; clear hR20) | (first | omega | (simp only [IntKind.wrap_i64] at *; omega) | (simp_all; done) | (simp_all; omega)))
        try simp (maxSteps := 1000000) [List.take_succ_cons, List.take_zero, List.drop_succ_cons, List.drop_zero]
        repeat' (first | apply And.intro | intro _)
        any_goals (first | (refine hK17 _ ?_; clear hK17) | (first | omega | (simp only [IntKind.wrap_i64] at *; omega) | (simp_all; done) | (simp_all; omega)))
        refine swp_seq fun K21 hK21 => ?_
        refine swp_region ty_ok ?_
        refine runs_cut 6 fun R22 hR22 => ?_
        try simp (maxSteps := 1000000) [List.take_succ_cons, List.take_zero, List.drop_succ_cons, List.drop_zero]
        repeat' (first | apply And.intro | intro _)
        any_goals (first | (refine hR22 _ ?_; clear hR22) | (first | omega | (simp only [IntKind.wrap_i64] at *; omega) | (simp_all; done) | (simp_all; omega)))
        try simp (maxSteps := 1000000) [List.take_succ_cons, List.take_zero, List.drop_succ_cons, List.drop_zero]
        repeat' (first | apply And.intro | intro _)
        any_goals (first | (refine hK21 _ ?_; clear hK21) | (first | omega | (simp only [IntKind.wrap_i64] at *; omega) | (simp_all; done) | (simp_all; omega)))
        refine swp_if fun C23 hC23 => ?_
        try simp (maxSteps := 1000000)
        refine hC23 _ (fun hc23 => ?_) (fun hc23 => ?_)
        · exfalso
          have h := hc23
          simp at h
        · clear hC23
          try simp at hc23
          refine swp_skip ?_
          try simp only [thn, inBlk]
          refine hK14 _ ?_; clear hK14
          refine swp_seq fun K24 hK24 => ?_
          refine swp_region ty_ok ?_
          refine runs_cut 2 fun R25 hR25 => ?_
          try simp (maxSteps := 1000000) [List.take_succ_cons, List.take_zero, List.drop_succ_cons, List.drop_zero]
          repeat' (first | apply And.intro | intro _)
          any_goals (first | (refine hR25 _ ?_; clear hR25) | (first | omega | (simp only [IntKind.wrap_i64] at *; omega) | (simp_all; done) | (simp_all; omega)))
          refine runs_cut 1 fun R26 hR26 => ?_
          try simp (maxSteps := 1000000) [List.take_succ_cons, List.take_zero, List.drop_succ_cons, List.drop_zero]
          refine .inl ⟨_, hstepped_ok b at_ (by omega) hb hat, ?_⟩
          try simp (maxSteps := 1000000)
          repeat' (first | apply And.intro | intro _)
          any_goals (first | (refine hR26 _ ?_; clear hR26) | (first | omega | (simp only [IntKind.wrap_i64] at *; omega) | (simp_all; done) | (simp_all; omega)))
          try simp (maxSteps := 1000000) [List.take_succ_cons, List.take_zero, List.drop_succ_cons, List.drop_zero]
          repeat' (first | apply And.intro | intro _)
          any_goals (first | (refine hK24 _ ?_; clear hK24) | (first | omega | (simp only [IntKind.wrap_i64] at *; omega) | (simp_all; done) | (simp_all; omega)))
          refine swp_seq fun K27 hK27 => ?_
          refine swp_seq fun K28 hK28 => ?_
          refine swp_region ty_ok ?_
          try simp (maxSteps := 1000000)
          repeat' (first | apply And.intro | intro _)
          any_goals (first | (refine hK28 _ ?_; clear hK28) | (first | omega | (simp only [IntKind.wrap_i64] at *; omega) | (simp_all; done) | (simp_all; omega)))
          refine swp_if fun C29 hC29 => ?_
          try simp (maxSteps := 1000000)
          refine hC29 _ (fun hc29 => ?_) (fun hc29 => ?_)
          · clear hC29
            try simp at hc29
            refine swp_seq fun K30 hK30 => ?_
            obtain ⟨_, _, z1, z2⟩ := st_err hc29
            refine swp_region ty_ok ?_
            try simp (maxSteps := 1000000) [z1, z2]
            repeat' (first | apply And.intro | intro _)
            any_goals (first | (refine hK30 _ ?_; clear hK30) | (first | omega | (simp only [IntKind.wrap_i64] at *; omega) | (simp_all; done) | (simp_all; omega)))
            refine swp_ret ?_
            simp [fnPost, Try.results12, resP, tupOf]
          · clear hC29
            try simp at hc29
            refine swp_skip ?_
            try simp only [thn, inBlk]
            refine hK27 _ ?_; clear hK27
            refine swp_seq fun K31 hK31 => ?_
            obtain ⟨g1, n, g2, g3, g4, g5⟩ := step_got hb (by have h := hc29; simpa using h)
            subst g2
            have hst2 := hstep_ok [] (by simp) _ g1
            obtain ⟨D, hD⟩ : ∃ D, stepL (stV b n) = D := ⟨_, rfl⟩
            rw [hD] at g3 g4 g5 hst2
            refine swp_region ty_ok ?_
            refine runs_cut 1 fun R32 hR32 => ?_
            try simp (maxSteps := 1000000) [List.take_succ_cons, List.take_zero, List.drop_succ_cons, List.drop_zero]
            repeat' (first | apply And.intro | intro _)
            any_goals (first | (refine hR32 _ ?_; clear hR32) | (first | omega | (simp only [IntKind.wrap_i64] at *; omega) | (simp_all; done) | (simp_all; omega)))
            refine runs_cut 1 fun R33 hR33 => ?_
            try simp (maxSteps := 1000000) [List.take_succ_cons, List.take_zero, List.drop_succ_cons, List.drop_zero]
            refine .inl ⟨_, hst2, ?_⟩
            try simp (maxSteps := 1000000)
            repeat' (first | apply And.intro | intro _)
            any_goals (first | (refine hR33 _ ?_; clear hR33) | (first | omega | (simp only [IntKind.wrap_i64] at *; omega) | (simp_all; done) | (simp_all; omega)))
            try simp (maxSteps := 1000000) [List.take_succ_cons, List.take_zero, List.drop_succ_cons, List.drop_zero]
            repeat' (first | apply And.intro | intro _)
            any_goals (first | (refine hK31 _ ?_; clear hK31) | (first | omega | (simp only [IntKind.wrap_i64] at *; omega) | (simp_all; done) | (simp_all; omega)))
            refine swp_seq fun K34 hK34 => ?_
            refine swp_draw ty_ok mixed (ms := [0, 1, 3, 7, 15, 7, 7, 7, 231, 487, 1023, 2047, 4095]) (by kernel_rfl) ?_
            refine runD_cut 6 fun R35 hR35 => ?_
            try simp (maxSteps := 1000000) [g3, g5, Cells.sub, List.take_succ_cons, List.take_zero, List.drop_succ_cons, List.drop_zero]
            repeat' (first | apply And.intro | intro _)
            any_goals (first | (refine hR35 _ _ _ _ ?_; clear hR35) | (first | omega | (simp only [IntKind.wrap_i64] at *; omega) | (simp_all; done) | (simp_all; omega)))
            try simp (maxSteps := 1000000) [g3, g5, Cells.sub, List.take_succ_cons, List.take_zero, List.drop_succ_cons, List.drop_zero]
            repeat' (first | apply And.intro | intro _)
            any_goals (first | kernel_rfl | (refine hK34 _ ?_; clear hK34) | (first | omega | (simp only [IntKind.wrap_i64] at *; omega) | (simp_all; done) | (simp_all; omega)))
            refine swp_ret ?_
            simp [fnPost, Try.results12, resP, tupOf]
            rw [show ((n : Int) + (D.length : Int)).toNat - n = D.length by omega, g5]
      · exact absurd hc16 (by simp)

set_option maxHeartbeats 4000000 in
theorem stepback_n (d : Int) (be b : List Int) (at_ : Int) (hb : ∀ k : Nat, 0 ≤ b[k]?.getD 0 ∧ b[k]?.getD 0 ≤ 255) (hat : -9223372036854775808 ≤ at_ ∧ at_ ≤ 9223372036854775807) (hd : ¬ St60 d) : PCall Try.prog 12 [.int .i64 d, .ro (.ints .u8 be), .ro (.ints .u8 b), .int .i64 at_] (.bool true) := by
  have hd0 := hd
  unfold St60 at hd0
  refine pcall_body ty_ok Try.func12 rfl (by rfl) (by simp) ?_
  rw [Try.ntmps12]
  refine swp_seq fun K1 hK1 => ?_
  refine swp_region ty_ok ?_
  try simp (maxSteps := 1000000)
  repeat' (first | apply And.intro | intro _)
  any_goals (first | (refine hK1 _ ?_; clear hK1) | (first | omega | (simp only [IntKind.wrap_i64] at *; omega) | (simp_all; done) | (simp_all; omega)))
  refine swp_seq fun K2 hK2 => ?_
  refine swp_region ty_ok ?_
  refine runs_cut 1 fun R3 hR3 => ?_
  try simp (maxSteps := 1000000) [List.take_succ_cons, List.take_zero, List.drop_succ_cons, List.drop_zero]
  refine .inl ⟨_, alive9, ?_⟩
  try simp (maxSteps := 1000000)
  repeat' (first | apply And.intro | intro _)
  any_goals (first | (refine hR3 _ ?_; clear hR3) | (first | omega | (simp only [IntKind.wrap_i64] at *; omega) | (simp_all; done) | (simp_all; omega)))
  try simp (maxSteps := 1000000) [List.take_succ_cons, List.take_zero, List.drop_succ_cons, List.drop_zero]
  repeat' (first | apply And.intro | intro _)
  any_goals (first | (refine hK2 _ ?_; clear hK2) | (first | omega | (simp only [IntKind.wrap_i64] at *; omega) | (simp_all; done) | (simp_all; omega)))
  refine swp_seq fun K4 hK4 => ?_
  refine swp_seq fun K5 hK5 => ?_
  refine swp_region ty_ok ?_
  try simp (maxSteps := 1000000)
  repeat' (first | apply And.intro | intro _)
  any_goals (first | (refine hK5 _ ?_; clear hK5) | (first | omega | (simp only [IntKind.wrap_i64] at *; omega) | (simp_all; done) | (simp_all; omega)))
  refine swp_if fun C6 hC6 => ?_
  try simp (maxSteps := 1000000)
  refine hC6 _ (fun hc6 => ?_) (fun hc6 => ?_)
  · clear hC6
    try simp at hc6
    refine swp_seq fun K7 hK7 => ?_
    refine swp_region ty_ok ?_
    try simp (maxSteps := 1000000)
    repeat' (first | apply And.intro | intro _)
    any_goals (first | (refine hK7 _ ?_; clear hK7) | (first | omega | (simp only [IntKind.wrap_i64] at *; omega) | (simp_all; done) | (simp_all; omega)))
    refine swp_ret ?_
    simp [fnPost, Try.results12, resP, tupOf]
  · clear hC6
    try simp at hc6
    refine swp_skip ?_
    try simp only [thn, inBlk]
    refine hK4 _ ?_; clear hK4
    refine swp_seq fun K8 hK8 => ?_
    refine swp_region ty_ok ?_
    refine runs_cut 1 fun R9 hR9 => ?_
    try simp (maxSteps := 1000000) [List.take_succ_cons, List.take_zero, List.drop_succ_cons, List.drop_zero]
    repeat' (first | apply And.intro | intro _)
    any_goals (first | (refine hR9 _ ?_; clear hR9) | (first | omega | (simp only [IntKind.wrap_i64] at *; omega) | (simp_all; done) | (simp_all; omega)))
    refine runs_cut 1 fun R10 hR10 => ?_
    try simp (maxSteps := 1000000) [List.take_succ_cons, List.take_zero, List.drop_succ_cons, List.drop_zero]
    refine .inl ⟨_, hstep_no [] d hd, ?_⟩
    try simp (maxSteps := 1000000)
    repeat' (first | apply And.intro | intro _)
    any_goals (first | (refine hR10 _ ?_; clear hR10) | (first | omega | (simp only [IntKind.wrap_i64] at *; omega) | (simp_all; done) | (simp_all; omega)))
    try simp (maxSteps := 1000000) [List.take_succ_cons, List.take_zero, List.drop_succ_cons, List.drop_zero]
    repeat' (first | apply And.intro | intro _)
    any_goals (first | (refine hK8 _ ?_; clear hK8) | (first | omega | (simp only [IntKind.wrap_i64] at *; omega) | (simp_all; done) | (simp_all; omega)))
    refine swp_seq fun K11 hK11 => ?_
    refine swp_seq fun K12 hK12 => ?_
    refine swp_region ty_ok ?_
    try simp (maxSteps := 1000000)
    repeat' (first | apply And.intro | intro _)
    any_goals (first | (refine hK12 _ ?_; clear hK12) | (first | omega | (simp only [IntKind.wrap_i64] at *; omega) | (simp_all; done) | (simp_all; omega)))
    refine swp_if fun C13 hC13 => ?_
    try simp (maxSteps := 1000000)
    refine hC13 _ (fun hc13 => ?_) (fun hc13 => ?_)
    · exfalso
      have h := hc13
      simp at h
      omega
    · clear hC13
      try simp at hc13
      refine swp_skip ?_
      try simp only [thn, inBlk]
      refine hK11 _ ?_; clear hK11
      refine swp_seq fun K14 hK14 => ?_
      refine swp_seq fun K15 hK15 => ?_
      refine swp_region ty_ok ?_
      try simp (maxSteps := 1000000)
      repeat' (first | apply And.intro | intro _)
      any_goals (first | (refine hK15 _ ?_; clear hK15) | (first | omega | (simp only [IntKind.wrap_i64] at *; omega) | (simp_all; done) | (simp_all; omega)))
      refine swp_if fun C16 hC16 => ?_
      try simp (maxSteps := 1000000)
      refine hC16 _ (fun hc16 => ?_) (fun hc16 => ?_)
      · exact absurd hc16 (by simp)
      · clear hC16
        try simp at hc16
        refine swp_skip ?_
        try simp only [thn, inBlk]
        refine hK14 _ ?_; clear hK14
        refine swp_seq fun K17 hK17 => ?_
        refine swp_region ty_ok ?_
        refine runs_cut 2 fun R18 hR18 => ?_
        try simp (maxSteps := 1000000) [List.take_succ_cons, List.take_zero, List.drop_succ_cons, List.drop_zero]
        repeat' (first | apply And.intro | intro _)
        any_goals (first | (refine hR18 _ ?_; clear hR18) | (first | omega | (simp only [IntKind.wrap_i64] at *; omega) | (simp_all; done) | (simp_all; omega)))
        refine runs_cut 1 fun R19 hR19 => ?_
        try simp (maxSteps := 1000000) [List.take_succ_cons, List.take_zero, List.drop_succ_cons, List.drop_zero]
        refine .inl ⟨_, hstepped_ok b at_ (by omega) hb hat, ?_⟩
        try simp (maxSteps := 1000000)
        repeat' (first | apply And.intro | intro _)
        any_goals (first | (refine hR19 _ ?_; clear hR19) | (first | omega | (simp only [IntKind.wrap_i64] at *; omega) | (simp_all; done) | (simp_all; omega)))
        try simp (maxSteps := 1000000) [List.take_succ_cons, List.take_zero, List.drop_succ_cons, List.drop_zero]
        repeat' (first | apply And.intro | intro _)
        any_goals (first | (refine hK17 _ ?_; clear hK17) | (first | omega | (simp only [IntKind.wrap_i64] at *; omega) | (simp_all; done) | (simp_all; omega)))
        refine swp_seq fun K20 hK20 => ?_
        refine swp_seq fun K21 hK21 => ?_
        refine swp_region ty_ok ?_
        try simp (maxSteps := 1000000)
        repeat' (first | apply And.intro | intro _)
        any_goals (first | (refine hK21 _ ?_; clear hK21) | (first | omega | (simp only [IntKind.wrap_i64] at *; omega) | (simp_all; done) | (simp_all; omega)))
        refine swp_if fun C22 hC22 => ?_
        try simp (maxSteps := 1000000)
        refine hC22 _ (fun hc22 => ?_) (fun hc22 => ?_)
        · clear hC22
          try simp at hc22
          refine swp_seq fun K23 hK23 => ?_
          obtain ⟨_, _, z1, z2⟩ := st_err hc22
          refine swp_region ty_ok ?_
          try simp (maxSteps := 1000000) [z1, z2]
          repeat' (first | apply And.intro | intro _)
          any_goals (first | (refine hK23 _ ?_; clear hK23) | (first | omega | (simp only [IntKind.wrap_i64] at *; omega) | (simp_all; done) | (simp_all; omega)))
          refine swp_ret ?_
          simp [fnPost, Try.results12, resP, tupOf]
        · clear hC22
          try simp at hc22
          refine swp_skip ?_
          try simp only [thn, inBlk]
          refine hK20 _ ?_; clear hK20
          refine swp_seq fun K24 hK24 => ?_
          obtain ⟨g1, n, g2, g3, g4, g5⟩ := step_got hb (by have h := hc22; simpa using h)
          subst g2
          have hst2 := hstep_ok [] (by simp) _ g1
          obtain ⟨D, hD⟩ : ∃ D, stepL (stV b n) = D := ⟨_, rfl⟩
          rw [hD] at g3 g4 g5 hst2
          refine swp_region ty_ok ?_
          refine runs_cut 1 fun R25 hR25 => ?_
          try simp (maxSteps := 1000000) [List.take_succ_cons, List.take_zero, List.drop_succ_cons, List.drop_zero]
          repeat' (first | apply And.intro | intro _)
          any_goals (first | (refine hR25 _ ?_; clear hR25) | (first | omega | (simp only [IntKind.wrap_i64] at *; omega) | (simp_all; done) | (simp_all; omega)))
          refine runs_cut 1 fun R26 hR26 => ?_
          try simp (maxSteps := 1000000) [List.take_succ_cons, List.take_zero, List.drop_succ_cons, List.drop_zero]
          refine .inl ⟨_, hst2, ?_⟩
          try simp (maxSteps := 1000000)
          repeat' (first | apply And.intro | intro _)
          any_goals (first | (refine hR26 _ ?_; clear hR26) | (first | omega | (simp only [IntKind.wrap_i64] at *; omega) | (simp_all; done) | (simp_all; omega)))
          try simp (maxSteps := 1000000) [List.take_succ_cons, List.take_zero, List.drop_succ_cons, List.drop_zero]
          repeat' (first | apply And.intro | intro _)
          any_goals (first | (refine hK24 _ ?_; clear hK24) | (first | omega | (simp only [IntKind.wrap_i64] at *; omega) | (simp_all; done) | (simp_all; omega)))
          refine swp_seq fun K27 hK27 => ?_
          refine swp_draw ty_ok mixed (ms := [0, 1, 3, 7, 15, 7, 7, 7, 231, 487, 1023, 2047, 4095]) (by kernel_rfl) ?_
          refine runD_cut 6 fun R28 hR28 => ?_
          try simp (maxSteps := 1000000) [g3, g5, Cells.sub, List.take_succ_cons, List.take_zero, List.drop_succ_cons, List.drop_zero]
          repeat' (first | apply And.intro | intro _)
          any_goals (first | (refine hR28 _ _ _ _ ?_; clear hR28) | (first | omega | (simp only [IntKind.wrap_i64] at *; omega) | (simp_all; done) | (simp_all; omega)))
          try simp (maxSteps := 1000000) [g3, g5, Cells.sub, List.take_succ_cons, List.take_zero, List.drop_succ_cons, List.drop_zero]
          repeat' (first | apply And.intro | intro _)
          any_goals (first | kernel_rfl | (refine hK27 _ ?_; clear hK27) | (first | omega | (simp only [IntKind.wrap_i64] at *; omega) | (simp_all; done) | (simp_all; omega)))
          refine swp_ret ?_
          simp [fnPost, Try.results12, resP, tupOf]
          rw [show ((n : Int) + (D.length : Int)).toNat - n = D.length by omega, g5]

end Go.Proofs.Ytgheplondkoedaa

