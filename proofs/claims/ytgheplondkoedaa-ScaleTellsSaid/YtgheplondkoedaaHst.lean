import Derived.Test.YtgheplondkoedaaWf
import Derived.Test.YtgheplondkoedaaTyh
import Derived.Test.YtgheplondkoedaaBkq
import Derived.Test.YtgheplondkoedaaHsrt
import Derived.Test.YtgheplondkoedaaHbk
import Derived.Test.YtgheplondkoedaaHbk2
import Derived.Test.YtgheplondkoedaaHbk3
import Derived.Test.YtgheplondkoedaaHbits
import Derived.Test.YtgheplondkoedaaHrd
import Derived.Test.YtgheplondkoedaaHrdq
import Derived.Test.YtgheplondkoedaaHbits2
import Derived.Test.YtgheplondkoedaaHbk4
import Derived.Test.YtgheplondkoedaaHbk5
import Derived.Test.YtgheplondkoedaaHbk6
import Derived.Test.YtgheplondkoedaaHbk8
import Derived.Test.YtgheplondkoedaaHbk9
import Derived.Test.YtgheplondkoedaaHgrow
namespace Go.Proofs.Ytgheplondkoedaa
set_option linter.unusedVariables false
set_option linter.unusedSimpArgs false
set_option maxRecDepth 10000
open Go Go.Pv

open Go.RowKit
def rkS (d : Int) : Nat := (bRk 12)[(d + 60).toNat]?.getD 0
/-- The code of a step. -/
def stepL (d : Int) : List Int := codeL 0 (rkS d)
def St60 (d : Int) : Prop := -60 ≤ d ∧ d ≤ 60
structure StepF (d : Int) : Prop where
 e : entE 12 [d] = 0
 v : entV 12 [d] = ((d + 60).toNat : Nat)
 m : (d + 60).toNat < bMany 12
 r : rkS d < 121
 neg : d < 0 → (rkS d : Int) = -2 * d - 1
 zer : d = 0 → rkS d = 0
 pos : 0 < d → (rkS d : Int) = 2 * d
 back : bVal 12 (d + 60).toNat = [d]
theorem stepF_all : ∀ n : Fin 121, entE 12 [(n.val : Int) - 60] = 0 ∧ entV 12 [(n.val : Int) - 60] = n.val ∧ rkS ((n.val : Int) - 60) < 121 ∧ ((n.val : Int) - 60 < 0 → (rkS ((n.val : Int) - 60) : Int) = -2 * ((n.val : Int) - 60) - 1) ∧ ((n.val : Int) - 60 = 0 → rkS ((n.val : Int) - 60) = 0) ∧ (0 < (n.val : Int) - 60 → (rkS ((n.val : Int) - 60) : Int) = 2 * ((n.val : Int) - 60)) ∧ bVal 12 n.val = [(n.val : Int) - 60] := by decide +kernel
theorem stepF {d : Int} (h : St60 d) : StepF d := by
 obtain ⟨n, hn⟩ := Int.eq_ofNat_of_zero_le (show 0 ≤ d + 60 by unfold St60 at h; omega)
 have hd : d = (n : Int) - 60 := by omega
 have ht : (d + 60).toNat = n := by omega
 obtain ⟨a, b, c, e, f, g, k⟩ := stepF_all ⟨n, by unfold St60 at h; omega⟩
 subst hd
 exact ⟨a, by rw [b, ht], by rw [ht]; show n < 121; unfold St60 at h; omega, c, e, f, g, by rw [ht]; exact k⟩
/-- The step of some bits. -/
def stE (b : List Int) (at_ : Int) : Int := fdE 0 121 b at_
def stV (b : List Int) (at_ : Int) : Int := if stE b at_ = 0 then fdN 0 (bE 12) b at_ - 60 else 0
def stP (b : List Int) (at_ : Int) : Int := fdP 0 (bE 12) b at_
theorem bE12 : (bE 12).length = 121 := by decide +kernel
theorem fdN_nat {b : List Int} {at_ : Int} (hp : ∀ k : Nat, 0 ≤ b[k]?.getD 0 ∧ b[k]?.getD 0 ≤ 255) (h : stE b at_ = 0) : ∃ n : Nat, n < 121 ∧ fdN 0 (bE 12) b at_ = n ∧ stV b at_ = (n : Int) - 60 := by
 have hE := bke (i := 12) (by omega) (by omega)
 have h' : fdE 0 (bE 12).length b at_ = 0 := by rw [bE12]; exact h
 obtain ⟨r, hr, h1, _⟩ := read_code (p := 0) (es := bE 12) (by omega) hp (by rw [bE12]; omega) h'
 obtain ⟨a, c⟩ := hE.ea (r := r) (by rw [hE.elen] at hr; exact hr)
 refine ⟨_, c, by rw [h1, a], ?_⟩
 unfold stV
 rw [if_pos h, h1, a]
theorem st_err {b : List Int} {at_ : Int} (h : ¬ stE b at_ = 0) : fdN 0 (bE 12) b at_ = 0 ∧ fdP 0 (bE 12) b at_ = 0 ∧ stV b at_ = 0 ∧ stP b at_ = 0 := by
 obtain ⟨a, c, _⟩ := fd_err (p := 0) (es := bE 12) (b := b) (at_ := at_) (e := stE b at_) (by rw [bE12]; rfl) h
 exact ⟨a, c, if_neg h, c⟩
def en12 : Nat → List Int
 | 0 => [60]
 | n + 1 => en12 n ++ [((59 - n : Nat) : Int), ((61 + n : Nat) : Int)]
def rk12 : Nat → List Int
 | 0 => List.replicate 121 0
 | n + 1 => ((rk12 n).set (59 - n) (2 * n + 1 : Nat)).set (61 + n) (2 * n + 2 : Nat)
theorem en12_len : ∀ n, (en12 n).length = 2 * n + 1
 | 0 => rfl
 | n + 1 => by rw [en12, List.length_append, en12_len n]; simp; omega
theorem rk12_len : ∀ n, (rk12 n).length = 121
 | 0 => by simp [rk12]
 | n + 1 => by rw [rk12, List.length_set, List.length_set, rk12_len n]
theorem en12_end : en12 60 = bE 12 := by decide +kernel
theorem rk12_end : rk12 60 = bR 12 := by decide +kernel
theorem bk12 : bookV 12 = .agg [.int .i64 12, .int .i64 0, .ro (.ints .i64 (bE 12)), .ro (.ints .i64 (bR 12))] := rfl

theorem rd_step (b : List Int) (at_ : Int) (hm : b.length ≤ 140737488355328) (hp : ∀ k : Nat, 0 ≤ b[k]?.getD 0 ∧ b[k]?.getD 0 ≤ 255) (hat : -9223372036854775808 ≤ at_ ∧ at_ ≤ 9223372036854775807) : PCall Try.prog 55 [bookV 12, .ro (.ints .u8 b), .int .i64 at_] (.tup [.int .i64 (fdN 0 (bE 12) b at_), .int .i64 (stP b at_), .int .i64 (stE b at_)]) := read_ok 12 (by omega) (by omega) b at_ hm hp hat
theorem fo_step (b : List Int) (at_ : Int) (hm : b.length ≤ 140737488355328) (hp : ∀ k : Nat, 0 ≤ b[k]?.getD 0 ∧ b[k]?.getD 0 ≤ 255) (hat : -9223372036854775808 ≤ at_ ∧ at_ ≤ 9223372036854775807) : PCall Try.prog 65 [bookV 12, .ro (.ints .u8 b), .int .i64 at_] (.tup [.int .i64 (fdN 0 (bE 12) b at_), .int .i64 (stP b at_), .int .i64 (stE b at_)]) := found_ok 12 (by omega) (by omega) b at_ hm hp hat
theorem en_step (d : Int) (x e : Int) (h1 : entV 12 [d] = x) (h2 : entE 12 [d] = e) : PCall Try.prog 44 [.int .i64 12, .ro (.ints .i64 [d])] (.tup [.int .i64 x, .int .i64 e]) := by
 have := ent_ok 12 (by omega) (by omega) [d]
 rw [h1, h2] at this
 exact this
theorem cd_step {d : Int} (h : St60 d) : PCall Try.prog 45 [bookV 12, .int .i64 ((d + 60).toNat : Nat)] (.tup [.ro (.ints .u8 (stepL d)), .int .i64 0]) := code_ok 12 (by omega) (by omega) (d + 60).toNat (stepF h).m
theorem va_step (n : Nat) (h : n < 121) : PCall Try.prog 56 [.int .i64 12, .int .i64 (n : Nat)] (.tup [.ro (.ints .i64 [(n : Int) - 60]), .int .i64 0]) := by
 have := valu_ok 12 (by omega) (by omega) n h
 have e := (stepF (d := (n : Int) - 60) (by unfold St60; omega)).back
 rw [show ((n : Int) - 60 + 60).toNat = n by omega] at e
 rw [e] at this
 exact this
theorem cc_step (b c : List Int) (hc : 1 ≤ c.length ∧ c.length ≤ 1000000) (hb : b.length ≤ 1000000) : PCall Try.prog 46 [.ro (.rows 1 [[.ro (.ints .u8 b)], [.ro (.ints .u8 c)]])] (.ro (.ints .u8 (b ++ c))) := by
 have := concat_ok [b, c] (by simp [cat]; omega) (by simp)
 have e : cat [b, c] = b ++ c := by simp [cat]
 rw [e] at this
 exact this
theorem stepL_len {d : Int} (h : St60 d) : 1 ≤ (stepL d).length ∧ (stepL d).length ≤ 19 := by
 have := (stepF h).r
 have f := (codeF (p := 0) (r := rkS d) (by omega) (by omega)).m
 unfold stepL
 rw [codeL_len]
 omega

attribute [local simp] runs gd step1 need evu un opnds opv ev cst cst1 cstL getT getH putT onL nxt argT cellsOf PV.one thn inBlk jmp fldP ldP ldC live Cells.len Cells.get Cells.w sug ldv bin eqF eq1 ops2 sh2 binv Tk.agg stC apC rdS apS cpC cpS mvL zp argsP idx fillP toInts chunks mkC ixS ixA oidx slP sl0 slA optL List.append mxF bltn frzA frz frzL frz1 pur1 Cells.pur PV.scal scal1 runD rdO PV.ids id1 zids ety Eff.on cnd minb and1b ifmax ifmin mxv sugI strv w0 w1 w2 wm1
theorem hstep_ok (b : List Int) (hb : b.length ≤ 1000000) (d : Int) (hd : St60 d) : PCall Try.prog 24 [.ro (.ints .u8 b), .int .i64 d] (.tup [.ro (.ints .u8 (b ++ stepL d)), .int .i64 0]) := by
 have hF := stepF hd
 have hsl := stepL_len hd
 obtain ⟨n, hn⟩ : ∃ n, (d + 60).toNat = n := ⟨_, rfl⟩
 have hv := hF.v
 have hcd := cd_step hd
 rw [hn] at hv hcd
 refine pcall_body ty_ok Try.func24 rfl (by rfl) (by simp) ?_
 rw [Try.ntmps24]
 refine swp_seq fun K1 hK1 => ?_
 refine swp_region ty_ok ?_
 try simp (maxSteps := 1000000) [bk12]
 repeat' (first | apply And.intro | intro _)
 any_goals (first | (refine hK1 _ ?_; clear hK1) | omega | (simp_all <;> omega))
 refine swp_seq fun K2 hK2 => ?_
 refine swp_region ty_ok ?_
 refine runs_cut 1 fun R3 hR3 => ?_
 try simp (maxSteps := 1000000) [bk12, List.take_succ_cons, List.take_zero, List.drop_succ_cons, List.drop_zero]
 repeat' (first | apply And.intro | intro _)
 any_goals (first | (refine hR3 _ ?_; clear hR3) | omega | (simp_all <;> omega))
 refine runs_cut 1 fun R4 hR4 => ?_
 try simp (maxSteps := 1000000) [bk12, List.take_succ_cons, List.take_zero, List.drop_succ_cons, List.drop_zero]
 repeat' (first | apply And.intro | intro _)
 any_goals (first | (refine Or.inl (hR4 _ ?_); clear hR4) | omega | (simp_all <;> omega))
 refine runs_cut 1 fun R5 hR5 => ?_
 try simp (maxSteps := 1000000) [bk12, List.take_succ_cons, List.take_zero, List.drop_succ_cons, List.drop_zero]
 refine .inl ⟨_, en_step d _ _ hv hF.e, ?_⟩
 try simp (maxSteps := 1000000) [bk12]
 repeat' (first | apply And.intro | intro _)
 any_goals (first | (refine hR5 _ ?_; clear hR5) | omega | (simp_all <;> omega))
 try simp (maxSteps := 1000000) [bk12, List.take_succ_cons, List.take_zero, List.drop_succ_cons, List.drop_zero]
 repeat' (first | apply And.intro | intro _)
 any_goals (first | (refine hK2 _ ?_; clear hK2) | omega | (simp_all <;> omega))
 refine swp_seq fun K6 hK6 => ?_
 refine swp_seq fun K7 hK7 => ?_
 refine swp_region ty_ok ?_
 try simp (maxSteps := 1000000) [bk12]
 repeat' (first | apply And.intro | intro _)
 any_goals (first | (refine hK7 _ ?_; clear hK7) | omega | (simp_all <;> omega))
 refine swp_if fun C8 hC8 => ?_
 try simp (maxSteps := 1000000) [bk12]
 refine hC8 _ (fun hc8 => ?_) (fun hc8 => ?_)
 ·exact absurd hc8 (by simp)
 ·clear hC8
  try simp at hc8
  refine swp_skip ?_
  try simp only [thn, inBlk]
  refine hK6 _ ?_; clear hK6
  refine swp_seq fun K9 hK9 => ?_
  refine swp_region ty_ok ?_
  refine runs_cut 1 fun R10 hR10 => ?_
  try simp (maxSteps := 1000000) [bk12, List.take_succ_cons, List.take_zero, List.drop_succ_cons, List.drop_zero]
  refine .inl ⟨_, get_book 12 (by omega) (by omega), ?_⟩
  try simp (maxSteps := 1000000) [bk12]
  repeat' (first | apply And.intro | intro _)
  any_goals (first | (refine hR10 _ ?_; clear hR10) | omega | (simp_all <;> omega))
  try simp (maxSteps := 1000000) [bk12, List.take_succ_cons, List.take_zero, List.drop_succ_cons, List.drop_zero]
  repeat' (first | apply And.intro | intro _)
  any_goals (first | (refine hK9 _ ?_; clear hK9) | omega | (simp_all <;> omega))
  refine swp_seq fun K11 hK11 => ?_
  refine swp_region ty_ok ?_
  refine runs_cut 2 fun R12 hR12 => ?_
  try simp (maxSteps := 1000000) [bk12, List.take_succ_cons, List.take_zero, List.drop_succ_cons, List.drop_zero]
  repeat' (first | apply And.intro | intro _)
  any_goals (first | (refine hR12 _ ?_; clear hR12) | omega | (simp_all <;> omega))
  refine runs_cut 1 fun R13 hR13 => ?_
  try simp (maxSteps := 1000000) [bk12, List.take_succ_cons, List.take_zero, List.drop_succ_cons, List.drop_zero]
  refine .inl ⟨_, hcd, ?_⟩
  try simp (maxSteps := 1000000) [bk12]
  repeat' (first | apply And.intro | intro _)
  any_goals (first | (refine hR13 _ ?_; clear hR13) | omega | (simp_all <;> omega))
  try simp (maxSteps := 1000000) [bk12, List.take_succ_cons, List.take_zero, List.drop_succ_cons, List.drop_zero]
  repeat' (first | apply And.intro | intro _)
  any_goals (first | (refine hK11 _ ?_; clear hK11) | omega | (simp_all <;> omega))
  refine swp_seq fun K14 hK14 => ?_
  refine swp_region ty_ok ?_
  refine runs_cut 2 fun R15 hR15 => ?_
  try simp (maxSteps := 1000000) [bk12, List.take_succ_cons, List.take_zero, List.drop_succ_cons, List.drop_zero]
  repeat' (first | apply And.intro | intro _)
  any_goals (first | (refine hR15 _ ?_; clear hR15) | omega | (simp_all <;> omega))
  refine runs_cut 1 fun R16 hR16 => ?_
  try simp (maxSteps := 1000000) [bk12, List.take_succ_cons, List.take_zero, List.drop_succ_cons, List.drop_zero]
  repeat' (first | apply And.intro | intro _)
  any_goals (first | (refine Or.inl (hR16 _ ?_); clear hR16) | omega | (simp_all <;> omega))
  refine runs_cut 1 fun R17 hR17 => ?_
  try simp (maxSteps := 1000000) [bk12, List.take_succ_cons, List.take_zero, List.drop_succ_cons, List.drop_zero]
  refine .inl ⟨_, cc_step b (stepL d) (by omega) hb, ?_⟩
  try simp (maxSteps := 1000000) [bk12]
  repeat' (first | apply And.intro | intro _)
  any_goals (first | (refine hR17 _ ?_; clear hR17) | omega | (simp_all <;> omega))
  try simp (maxSteps := 1000000) [bk12, List.take_succ_cons, List.take_zero, List.drop_succ_cons, List.drop_zero]
  repeat' (first | apply And.intro | intro _)
  any_goals (first | (refine hK14 _ ?_; clear hK14) | omega | (simp_all <;> omega))
  refine swp_ret ?_
  simp [fnPost, Try.results24, resP, tupOf]

theorem hstepped_ok (b : List Int) (at_ : Int) (hm : b.length ≤ 140737488355328) (hp : ∀ k : Nat, 0 ≤ b[k]?.getD 0 ∧ b[k]?.getD 0 ≤ 255) (hat : -9223372036854775808 ≤ at_ ∧ at_ ≤ 9223372036854775807) : PCall Try.prog 26 [.ro (.ints .u8 b), .int .i64 at_] (.tup [.int .i64 (stV b at_), .int .i64 (stP b at_), .int .i64 (stE b at_)]) := by
 refine pcall_body ty_ok Try.func26 rfl (by rfl) (by simp) ?_
 rw [Try.ntmps26]
 refine swp_seq fun K1 hK1 => ?_
 refine swp_region ty_ok ?_
 try simp (maxSteps := 1000000) [bk12]
 repeat' (first | apply And.intro | intro _)
 any_goals (first | (refine hK1 _ ?_; clear hK1) | omega | (simp_all <;> omega))
 refine swp_seq fun K2 hK2 => ?_
 refine swp_region ty_ok ?_
 refine runs_cut 1 fun R3 hR3 => ?_
 try simp (maxSteps := 1000000) [bk12, List.take_succ_cons, List.take_zero, List.drop_succ_cons, List.drop_zero]
 refine .inl ⟨_, get_book 12 (by omega) (by omega), ?_⟩
 try simp (maxSteps := 1000000) [bk12]
 repeat' (first | apply And.intro | intro _)
 any_goals (first | (refine hR3 _ ?_; clear hR3) | omega | (simp_all <;> omega))
 try simp (maxSteps := 1000000) [bk12, List.take_succ_cons, List.take_zero, List.drop_succ_cons, List.drop_zero]
 repeat' (first | apply And.intro | intro _)
 any_goals (first | (refine hK2 _ ?_; clear hK2) | omega | (simp_all <;> omega))
 refine swp_seq fun K4 hK4 => ?_
 refine swp_region ty_ok ?_
 refine runs_cut 3 fun R5 hR5 => ?_
 try simp (maxSteps := 1000000) [bk12, List.take_succ_cons, List.take_zero, List.drop_succ_cons, List.drop_zero]
 repeat' (first | apply And.intro | intro _)
 any_goals (first | (refine hR5 _ ?_; clear hR5) | omega | (simp_all <;> omega))
 refine runs_cut 1 fun R6 hR6 => ?_
 try simp (maxSteps := 1000000) [bk12, List.take_succ_cons, List.take_zero, List.drop_succ_cons, List.drop_zero]
 refine .inl ⟨_, rd_step b at_ hm hp hat, ?_⟩
 try simp (maxSteps := 1000000) [bk12]
 repeat' (first | apply And.intro | intro _)
 any_goals (first | (refine hR6 _ ?_; clear hR6) | omega | (simp_all <;> omega))
 try simp (maxSteps := 1000000) [bk12, List.take_succ_cons, List.take_zero, List.drop_succ_cons, List.drop_zero]
 repeat' (first | apply And.intro | intro _)
 any_goals (first | (refine hK4 _ ?_; clear hK4) | omega | (simp_all <;> omega))
 refine swp_seq fun K7 hK7 => ?_
 refine swp_seq fun K8 hK8 => ?_
 refine swp_region ty_ok ?_
 try simp (maxSteps := 1000000) [bk12]
 repeat' (first | apply And.intro | intro _)
 any_goals (first | (refine hK8 _ ?_; clear hK8) | omega | (simp_all <;> omega))
 refine swp_if fun C9 hC9 => ?_
 try simp (maxSteps := 1000000) [bk12]
 refine hC9 _ (fun hc9 => ?_) (fun hc9 => ?_)
 ·clear hC9
  try simp at hc9
  refine swp_seq fun K10 hK10 => ?_
  refine swp_region ty_ok ?_
  try simp (maxSteps := 1000000) [bk12]
  repeat' (first | apply And.intro | intro _)
  any_goals (first | (refine hK10 _ ?_; clear hK10) | omega | (simp_all <;> omega))
  refine swp_ret ?_
  simp [fnPost, Try.results26, resP, tupOf]
  obtain ⟨a1, a2, a3, a4⟩ := st_err (by have h := hc9; simpa using h)
  exact ⟨a3, a4⟩
 ·clear hC9
  try simp at hc9
  refine swp_skip ?_
  try simp only [thn, inBlk]
  refine hK7 _ ?_; clear hK7
  refine swp_seq fun K11 hK11 => ?_
  obtain ⟨n, hn, hn1, hn2⟩ := fdN_nat hp (by have h := hc9; simpa using h)
  rw [hn2]
  refine swp_region ty_ok ?_
  refine runs_cut 1 fun R12 hR12 => ?_
  try simp (maxSteps := 1000000) [bk12, hn1, List.take_succ_cons, List.take_zero, List.drop_succ_cons, List.drop_zero]
  repeat' (first | apply And.intro | intro _)
  any_goals (first | (refine hR12 _ ?_; clear hR12) | omega | (simp_all <;> omega))
  refine runs_cut 1 fun R13 hR13 => ?_
  try simp (maxSteps := 1000000) [bk12, hn1, List.take_succ_cons, List.take_zero, List.drop_succ_cons, List.drop_zero]
  refine .inl ⟨_, va_step n hn, ?_⟩
  try simp (maxSteps := 1000000) [bk12, hn1]
  repeat' (first | apply And.intro | intro _)
  any_goals (first | (refine hR13 _ ?_; clear hR13) | omega | (simp_all <;> omega))
  try simp (maxSteps := 1000000) [bk12, hn1, List.take_succ_cons, List.take_zero, List.drop_succ_cons, List.drop_zero]
  repeat' (first | apply And.intro | intro _)
  any_goals (first | (refine hK11 _ ?_; clear hK11) | omega | (simp_all <;> omega))
  refine swp_seq fun K14 hK14 => ?_
  refine swp_region ty_ok ?_
  try simp (maxSteps := 1000000) [bk12]
  repeat' (first | apply And.intro | intro _)
  any_goals (first | (refine hK14 _ ?_; clear hK14) | omega | (simp_all <;> omega))
  refine swp_ret ?_
  simp [fnPost, Try.results26, resP, tupOf]
  have h := hc9
  first | exact h.symm | exact h | omega

set_option maxHeartbeats 2000000 in
theorem rsteps_ok  : PCall Try.prog 66 [] (bookV 12) := by
 refine pcall_body ty_ok Try.func66 rfl (by rfl) (by simp) ?_
 rw [Try.ntmps66]
 refine swp_seq fun K1 hK1 => ?_
 refine swp_region ty_ok ?_
 try simp (maxSteps := 1000000) [bk12]
 repeat' (first | apply And.intro | intro _)
 any_goals (first | (refine hK1 _ ?_; clear hK1) | omega | (simp_all <;> omega))
 refine swp_seq fun K2 hK2 => ?_
 refine swp_region ty_ok ?_
 refine runs_cut 1 fun R3 hR3 => ?_
 try simp (maxSteps := 1000000) [bk12, List.take_succ_cons, List.take_zero, List.drop_succ_cons, List.drop_zero]
 repeat' (first | apply And.intro | intro _)
 any_goals (first | (refine Or.inr (hR3 _ ?_); clear hR3) | omega | (simp_all <;> omega))
 refine runs_cut 1 fun R4 hR4 => ?_
 try simp (maxSteps := 1000000) [bk12, List.take_succ_cons, List.take_zero, List.drop_succ_cons, List.drop_zero]
 repeat' (first | apply And.intro | intro _)
 any_goals (first | (refine Or.inr (hR4 _ ?_); clear hR4) | omega | (simp_all <;> omega))
 try simp (maxSteps := 1000000) [bk12, List.take_succ_cons, List.take_zero, List.drop_succ_cons, List.drop_zero]
 repeat' (first | apply And.intro | intro _)
 any_goals (first | (refine hK2 _ ?_; clear hK2) | omega | (simp_all <;> omega))
 refine swp_seq fun K5 hK5 => ?_
 refine swp_seq fun K6 hK6 => ?_
 refine swp_region ty_ok ?_
 try simp (maxSteps := 1000000) [bk12]
 repeat' (first | apply And.intro | intro _)
 any_goals (first | (refine hK6 _ ?_; clear hK6) | omega | (simp_all <;> omega))
 refine swp_block ?_
 refine swp_loop 4 (fun m_ s_ => ∃ (m : Nat), (m ≤ 60) ∧ s_ = ⟨[(0, .ptr 0 0 0 1), (1, .ptr 3 0 0 1), (2, .int .i64 (((m : Nat) : Int) + 1))], [(0, some ⟨.rows 4 [[.int .i64 0, .int .i64 0, .nil (.ints .i64 []), .nil (.ints .i64 [])]], true, 25⟩), (1, some ⟨.ints .i64 (en12 m), false, 3⟩), (2, some ⟨.ints .i64 (rk12 m), false, 3⟩), (3, some ⟨.rows 4 [[.int .i64 12, .int .i64 0, .sl 1 0 (2 * m + 1) (2 * m + 1), .sl 2 0 121 121]], true, 25⟩)], 4⟩ ∧ m_ = 60 - m) _ ⟨[(0, .ptr 0 0 0 1), (1, .ptr 3 0 0 1), (2, .int .i64 (((0 : Nat) : Int) + 1))], [(0, some ⟨.rows 4 [[.int .i64 0, .int .i64 0, .nil (.ints .i64 []), .nil (.ints .i64 [])]], true, 25⟩), (1, some ⟨.ints .i64 (en12 0), false, 3⟩), (2, some ⟨.ints .i64 (rk12 0), false, 3⟩), (3, some ⟨.rows 4 [[.int .i64 12, .int .i64 0, .sl 1 0 (2 * 0 + 1) (2 * 0 + 1), .sl 2 0 121 121]], true, 25⟩)], 4⟩ ⟨by simp [getT, PV.lo, lo1], by simp [getH, Blk.lo, Cells.lo, lo1, en12, rk12], rfl, by omega⟩ ⟨(0), by (first | omega | (simp_all <;> omega)), rfl, rfl⟩ ?_
 rintro m_ s_ ⟨m, hL7_0, rfl, rfl⟩ KL7 hL7
 refine swp_seq fun K8 hK8 => ?_
 refine swp_seq fun K9 hK9 => ?_
 refine swp_region ty_ok ?_
 try simp (maxSteps := 1000000) [bk12]
 repeat' (first | apply And.intro | intro _)
 any_goals (first | (refine hK9 _ ?_; clear hK9) | omega | (simp_all <;> omega))
 refine swp_if fun C10 hC10 => ?_
 try simp (maxSteps := 1000000) [bk12]
 refine hC10 _ (fun hc10 => ?_) (fun hc10 => ?_)
 ·clear hC10
  try simp at hc10
  refine swp_skip ?_
  try simp only [thn, inBlk]
  refine hK8 _ ?_; clear hK8
  refine swp_seq fun K11 hK11 => ?_
  refine swp_block ?_
  refine swp_seq fun K12 hK12 => ?_
  have hel := en12_len m
  have hrl := rk12_len m
  have hs1 : IntKind.i64.wrap (60 - ((m : Int) + 1)) = ((59 - m : Nat) : Int) := by rw [w64 (by omega)]; omega
  refine swp_region ty_ok ?_
  try simp (maxSteps := 1000000) [bk12, hel, hrl, hs1]
  repeat' (first | apply And.intro | intro _)
  any_goals (first | (refine hK12 _ ?_; clear hK12) | omega | (simp_all <;> omega))
  refine swp_seq fun K13 hK13 => ?_
  have hs2 : IntKind.i64.wrap (60 + ((m : Int) + 1)) = ((61 + m : Nat) : Int) := by rw [w64 (by omega)]; omega
  have hle1 : IntKind.i64.wrap ((((2 * m + 1 : Nat)) : Int) + 1) = ((2 * m + 2 : Nat) : Int) := by rw [w64 (by omega)]; omega
  have hle2 : IntKind.i64.wrap (2 * (m : Int) + 1 + 1) = ((2 * m + 2 : Nat) : Int) := by rw [w64 (by omega)]; omega
  have hrl2 : ((rk12 m).set (59 - m) (2 * m + 1 : Nat)).length = 121 := by rw [List.length_set]; exact hrl
  have hset : ((rk12 m).set (59 - m) (2 * m + 1 : Nat)).set (61 + m) (2 * m + 2 : Nat) = rk12 (m + 1) := rfl
  refine swp_region ty_ok ?_
  try simp (maxSteps := 1000000) [bk12, hs2, hel, hrl2, hle1, hle2, hset]
  repeat' (first | apply And.intro | intro _)
  any_goals (first | (refine hK13 _ ?_; clear hK13) | omega | (simp_all <;> omega))
  have happ : en12 m ++ [((59 - m : Nat) : Int), ((61 + m : Nat) : Int)] = en12 (m + 1) := rfl
  have hs1 : IntKind.i64.wrap (60 - ((m : Int) + 1)) = ((59 - m : Nat) : Int) := by rw [w64 (by omega)]; omega
  have hs2 : IntKind.i64.wrap (60 + ((m : Int) + 1)) = ((61 + m : Nat) : Int) := by rw [w64 (by omega)]; omega
  have hmw : IntKind.i64.wrap ((m : Int) + 1 + 1) = (m : Int) + 1 + 1 := w64 (by omega)
  refine swp_region ty_ok ?_
  refine runs_cut 6 fun R14 hR14 => ?_
  try simp (maxSteps := 1000000) [bk12, hs1, hs2, happ, hel, List.take_succ_cons, List.take_zero, List.drop_succ_cons, List.drop_zero]
  repeat' (first | apply And.intro | intro _)
  any_goals (first | (refine hR14 _ ?_; clear hR14) | omega | (simp_all <;> omega))
  refine runs_cut 1 fun R15 hR15 => ?_
  try simp (maxSteps := 1000000) [bk12, hs1, hs2, happ, hel, List.take_succ_cons, List.take_zero, List.drop_succ_cons, List.drop_zero]
  repeat' (first | apply And.intro | intro _)
  any_goals (first | (refine Or.inl (hR15 _ ?_); clear hR15) | omega | (simp_all <;> omega))
  try simp (maxSteps := 1000000) [bk12, hs1, hs2, happ, hel, List.take_succ_cons, List.take_zero, List.drop_succ_cons, List.drop_zero]
  repeat' (first | apply And.intro | intro _)
  any_goals (first | (refine hK11 _ ?_; clear hK11) | omega | (simp_all <;> omega))
  refine swp_region ty_ok ?_
  try simp (maxSteps := 1000000) [bk12]
  repeat' apply And.intro
  any_goals (try omega)
  refine hL7 _ ⟨[(0, .ptr 0 0 0 1), (1, .ptr 3 0 0 1), (2, .int .i64 ((((m + 1) : Nat) : Int) + 1))], [(0, some ⟨.rows 4 [[.int .i64 0, .int .i64 0, .nil (.ints .i64 []), .nil (.ints .i64 [])]], true, 25⟩), (1, some ⟨.ints .i64 (en12 (m + 1)), false, 3⟩), (2, some ⟨.ints .i64 (rk12 (m + 1)), false, 3⟩), (3, some ⟨.rows 4 [[.int .i64 12, .int .i64 0, .sl 1 0 (2 * (m + 1) + 1) (2 * (m + 1) + 1), .sl 2 0 121 121]], true, 25⟩)], 4⟩ _ ?_ ⟨(m + 1), by (first | omega | (simp_all <;> omega)), rfl, rfl⟩ ⟨by simp [getT, PV.lo, lo1, hmw], by (simp [getH, Blk.lo, Cells.lo, lo1]; exact ⟨rfl, rfl, by omega⟩), rfl, by omega⟩
  omega
 ·clear hC10
  try simp at hc10
  refine swp_exit ?_
  simp [thn, inBlk]
  refine hK5 _ ?_; clear hK5
  refine swp_seq fun K16 hK16 => ?_
  refine swp_region ty_ok ?_
  try simp (maxSteps := 1000000) [bk12]
  repeat' (first | apply And.intro | intro _)
  any_goals (first | (refine hK16 _ ?_; clear hK16) | omega | (simp_all <;> omega))
  refine swp_ret ?_
  simp [fnPost, Try.results66, resP, tupOf]
  have hm60 : m = 60 := (by omega)
  subst hm60
  rw [en12_end, rk12_end]
  exact ⟨bE12, by decide +kernel, rfl⟩

theorem stepbits_ok (d : Int) (hd : St60 d) : PCall Try.prog 64 [.int .i64 d] (.ro (.ints .u8 (stepL d))) := by
 have hd0 := hd
 unfold St60 at hd0
 have hF := stepF hd
 have f1 := hF.neg
 have f2 := hF.zer
 have f3 := hF.pos
 have f4 := hF.r
 obtain ⟨r, hr⟩ : ∃ r, rkS d = r := ⟨_, rfl⟩
 have hbits := rkbits_ok 0 r (by omega) (by rw [hr] at f4; omega)
 have hsl : codeL 0 r = stepL d := by unfold stepL; rw [hr]
 rw [hsl] at hbits
 rw [hr] at f1 f2 f3 f4
 refine pcall_body ty_ok Try.func64 rfl (by rfl) (by simp) ?_
 rw [Try.ntmps64]
 refine swp_seq fun K1 hK1 => ?_
 refine swp_region ty_ok ?_
 try simp (maxSteps := 1000000)
 repeat' (first | apply And.intro | intro _)
 any_goals (first | (refine hK1 _ ?_; clear hK1) | omega | (simp_all <;> omega))
 refine swp_seq fun K2 hK2 => ?_
 refine swp_region ty_ok ?_
 try simp (maxSteps := 1000000)
 repeat' (first | apply And.intro | intro _)
 any_goals (first | (refine hK2 _ ?_; clear hK2) | omega | (simp_all <;> omega))
 refine swp_seq fun K3 hK3 => ?_
 refine swp_seq fun K4 hK4 => ?_
 refine swp_region ty_ok ?_
 try simp (maxSteps := 1000000)
 repeat' (first | apply And.intro | intro _)
 any_goals (first | (refine hK4 _ ?_; clear hK4) | omega | (simp_all <;> omega))
 refine swp_if fun C5 hC5 => ?_
 try simp (maxSteps := 1000000)
 refine hC5 _ (fun hc5 => ?_) (fun hc5 => ?_)
 ·clear hC5
  try simp at hc5
  have g1 := f1 hc5
  have hm1 : IntKind.i64.wrap (-2 * d) = -2 * d := w64 (by omega)
  have hm1b : IntKind.i64.wrap (-(2 * d)) = -2 * d := by rw [w64 (by omega)]; omega
  have hm2 : IntKind.i64.wrap (-2 * d - 1) = (r : Nat) := by rw [w64 (by omega)]; omega
  refine swp_region ty_ok ?_
  try simp (maxSteps := 1000000) [hm1, hm1b, hm2]
  repeat' (first | apply And.intro | intro _)
  any_goals (first | (refine hK3 _ ?_; clear hK3) | omega | (simp_all <;> omega))
  refine swp_seq fun K6 hK6 => ?_
  refine swp_seq fun K7 hK7 => ?_
  refine swp_region ty_ok ?_
  try simp (maxSteps := 1000000)
  repeat' (first | apply And.intro | intro _)
  any_goals (first | (refine hK7 _ ?_; clear hK7) | omega | (simp_all <;> omega))
  refine swp_if fun C8 hC8 => ?_
  try simp (maxSteps := 1000000)
  refine hC8 _ (fun hc8 => ?_) (fun hc8 => ?_)
  ·clear hC8
   try simp at hc8
   have g3 := f3 (by have h := hc8; omega)
   have hm3 : IntKind.i64.wrap (2 * d) = (r : Nat) := by rw [w64 (by omega)]; omega
   refine swp_region ty_ok ?_
   try simp (maxSteps := 1000000) [hm3]
   repeat' (first | apply And.intro | intro _)
   any_goals (first | (refine hK6 _ ?_; clear hK6) | omega | (simp_all <;> omega))
   refine swp_seq fun K9 hK9 => ?_
   have hz : ¬ d < 0 → ¬ 0 < d → (0 : Int) = (r : Nat) := fun a b => by have := f2 (by omega); omega
   refine swp_region ty_ok ?_
   refine runs_cut 1 fun R10 hR10 => ?_
   try simp (maxSteps := 1000000) [List.take_succ_cons, List.take_zero, List.drop_succ_cons, List.drop_zero]
   repeat' (first | apply And.intro | intro _)
   any_goals (first | (refine hR10 _ ?_; clear hR10) | omega | (simp_all <;> omega))
   refine runs_cut 1 fun R11 hR11 => ?_
   try simp (maxSteps := 1000000) [List.take_succ_cons, List.take_zero, List.drop_succ_cons, List.drop_zero]
   refine .inl ⟨_, (by first | exact hbits | (have hz0 := hz (by omega) (by omega); rw [← hz0] at hbits; exact hbits)), ?_⟩
   try simp (maxSteps := 1000000)
   repeat' (first | apply And.intro | intro _)
   any_goals (first | (refine hR11 _ ?_; clear hR11) | omega | (simp_all <;> omega))
   try simp (maxSteps := 1000000) [List.take_succ_cons, List.take_zero, List.drop_succ_cons, List.drop_zero]
   repeat' (first | apply And.intro | intro _)
   any_goals (first | (refine hK9 _ ?_; clear hK9) | omega | (simp_all <;> omega))
   refine swp_ret ?_
   simp [fnPost, Try.results64, resP, tupOf]
  ·clear hC8
   try simp at hc8
   refine swp_skip ?_
   try simp only [thn, inBlk]
   refine hK6 _ ?_; clear hK6
   refine swp_seq fun K12 hK12 => ?_
   have hz : ¬ d < 0 → ¬ 0 < d → (0 : Int) = (r : Nat) := fun a b => by have := f2 (by omega); omega
   refine swp_region ty_ok ?_
   refine runs_cut 1 fun R13 hR13 => ?_
   try simp (maxSteps := 1000000) [List.take_succ_cons, List.take_zero, List.drop_succ_cons, List.drop_zero]
   repeat' (first | apply And.intro | intro _)
   any_goals (first | (refine hR13 _ ?_; clear hR13) | omega | (simp_all <;> omega))
   refine runs_cut 1 fun R14 hR14 => ?_
   try simp (maxSteps := 1000000) [List.take_succ_cons, List.take_zero, List.drop_succ_cons, List.drop_zero]
   refine .inl ⟨_, (by first | exact hbits | (have hz0 := hz (by omega) (by omega); rw [← hz0] at hbits; exact hbits)), ?_⟩
   try simp (maxSteps := 1000000)
   repeat' (first | apply And.intro | intro _)
   any_goals (first | (refine hR14 _ ?_; clear hR14) | omega | (simp_all <;> omega))
   try simp (maxSteps := 1000000) [List.take_succ_cons, List.take_zero, List.drop_succ_cons, List.drop_zero]
   repeat' (first | apply And.intro | intro _)
   any_goals (first | (refine hK12 _ ?_; clear hK12) | omega | (simp_all <;> omega))
   refine swp_ret ?_
   simp [fnPost, Try.results64, resP, tupOf]
 ·clear hC5
  try simp at hc5
  refine swp_skip ?_
  try simp only [thn, inBlk]
  refine hK3 _ ?_; clear hK3
  refine swp_seq fun K15 hK15 => ?_
  refine swp_seq fun K16 hK16 => ?_
  refine swp_region ty_ok ?_
  try simp (maxSteps := 1000000)
  repeat' (first | apply And.intro | intro _)
  any_goals (first | (refine hK16 _ ?_; clear hK16) | omega | (simp_all <;> omega))
  refine swp_if fun C17 hC17 => ?_
  try simp (maxSteps := 1000000)
  refine hC17 _ (fun hc17 => ?_) (fun hc17 => ?_)
  ·clear hC17
   try simp at hc17
   have g3 := f3 (by have h := hc17; omega)
   have hm3 : IntKind.i64.wrap (2 * d) = (r : Nat) := by rw [w64 (by omega)]; omega
   refine swp_region ty_ok ?_
   try simp (maxSteps := 1000000) [hm3]
   repeat' (first | apply And.intro | intro _)
   any_goals (first | (refine hK15 _ ?_; clear hK15) | omega | (simp_all <;> omega))
   refine swp_seq fun K18 hK18 => ?_
   have hz : ¬ d < 0 → ¬ 0 < d → (0 : Int) = (r : Nat) := fun a b => by have := f2 (by omega); omega
   refine swp_region ty_ok ?_
   refine runs_cut 1 fun R19 hR19 => ?_
   try simp (maxSteps := 1000000) [List.take_succ_cons, List.take_zero, List.drop_succ_cons, List.drop_zero]
   repeat' (first | apply And.intro | intro _)
   any_goals (first | (refine hR19 _ ?_; clear hR19) | omega | (simp_all <;> omega))
   refine runs_cut 1 fun R20 hR20 => ?_
   try simp (maxSteps := 1000000) [List.take_succ_cons, List.take_zero, List.drop_succ_cons, List.drop_zero]
   refine .inl ⟨_, (by first | exact hbits | (have hz0 := hz (by omega) (by omega); rw [← hz0] at hbits; exact hbits)), ?_⟩
   try simp (maxSteps := 1000000)
   repeat' (first | apply And.intro | intro _)
   any_goals (first | (refine hR20 _ ?_; clear hR20) | omega | (simp_all <;> omega))
   try simp (maxSteps := 1000000) [List.take_succ_cons, List.take_zero, List.drop_succ_cons, List.drop_zero]
   repeat' (first | apply And.intro | intro _)
   any_goals (first | (refine hK18 _ ?_; clear hK18) | omega | (simp_all <;> omega))
   refine swp_ret ?_
   simp [fnPost, Try.results64, resP, tupOf]
  ·clear hC17
   try simp at hc17
   refine swp_skip ?_
   try simp only [thn, inBlk]
   refine hK15 _ ?_; clear hK15
   refine swp_seq fun K21 hK21 => ?_
   have hz : ¬ d < 0 → ¬ 0 < d → (0 : Int) = (r : Nat) := fun a b => by have := f2 (by omega); omega
   refine swp_region ty_ok ?_
   refine runs_cut 1 fun R22 hR22 => ?_
   try simp (maxSteps := 1000000) [List.take_succ_cons, List.take_zero, List.drop_succ_cons, List.drop_zero]
   repeat' (first | apply And.intro | intro _)
   any_goals (first | (refine hR22 _ ?_; clear hR22) | omega | (simp_all <;> omega))
   refine runs_cut 1 fun R23 hR23 => ?_
   try simp (maxSteps := 1000000) [List.take_succ_cons, List.take_zero, List.drop_succ_cons, List.drop_zero]
   refine .inl ⟨_, (by first | exact hbits | (have hz0 := hz (by omega) (by omega); rw [← hz0] at hbits; exact hbits)), ?_⟩
   try simp (maxSteps := 1000000)
   repeat' (first | apply And.intro | intro _)
   any_goals (first | (refine hR23 _ ?_; clear hR23) | omega | (simp_all <;> omega))
   try simp (maxSteps := 1000000) [List.take_succ_cons, List.take_zero, List.drop_succ_cons, List.drop_zero]
   repeat' (first | apply And.intro | intro _)
   any_goals (first | (refine hK21 _ ?_; clear hK21) | omega | (simp_all <;> omega))
   refine swp_ret ?_
   simp [fnPost, Try.results64, resP, tupOf]

theorem rstepped_ok (b : List Int) (at_ : Int) (hm : b.length ≤ 140737488355328) (hp : ∀ k : Nat, 0 ≤ b[k]?.getD 0 ∧ b[k]?.getD 0 ≤ 255) (hat : -9223372036854775808 ≤ at_ ∧ at_ ≤ 9223372036854775807) : PCall Try.prog 27 [.ro (.ints .u8 b), .int .i64 at_] (.tup [.int .i64 (stV b at_), .int .i64 (stP b at_), .int .i64 (stE b at_)]) := by
 refine pcall_body ty_ok Try.func27 rfl (by rfl) (by simp) ?_
 rw [Try.ntmps27]
 refine swp_seq fun K1 hK1 => ?_
 refine swp_region ty_ok ?_
 try simp (maxSteps := 1000000) [bk12]
 repeat' (first | apply And.intro | intro _)
 any_goals (first | (refine hK1 _ ?_; clear hK1) | omega | (simp_all <;> omega))
 refine swp_seq fun K2 hK2 => ?_
 refine swp_region ty_ok ?_
 refine runs_cut 1 fun R3 hR3 => ?_
 try simp (maxSteps := 1000000) [bk12, List.take_succ_cons, List.take_zero, List.drop_succ_cons, List.drop_zero]
 refine .inl ⟨_, rsteps_ok, ?_⟩
 try simp (maxSteps := 1000000) [bk12]
 repeat' (first | apply And.intro | intro _)
 any_goals (first | (refine hR3 _ ?_; clear hR3) | omega | (simp_all <;> omega))
 refine runs_cut 2 fun R4 hR4 => ?_
 try simp (maxSteps := 1000000) [bk12, List.take_succ_cons, List.take_zero, List.drop_succ_cons, List.drop_zero]
 repeat' (first | apply And.intro | intro _)
 any_goals (first | (refine hR4 _ ?_; clear hR4) | omega | (simp_all <;> omega))
 refine runs_cut 1 fun R5 hR5 => ?_
 try simp (maxSteps := 1000000) [bk12, List.take_succ_cons, List.take_zero, List.drop_succ_cons, List.drop_zero]
 refine .inl ⟨_, fo_step b at_ hm hp hat, ?_⟩
 try simp (maxSteps := 1000000) [bk12]
 repeat' (first | apply And.intro | intro _)
 any_goals (first | (refine hR5 _ ?_; clear hR5) | omega | (simp_all <;> omega))
 try simp (maxSteps := 1000000) [bk12, List.take_succ_cons, List.take_zero, List.drop_succ_cons, List.drop_zero]
 repeat' (first | apply And.intro | intro _)
 any_goals (first | (refine hK2 _ ?_; clear hK2) | omega | (simp_all <;> omega))
 refine swp_seq fun K6 hK6 => ?_
 refine swp_seq fun K7 hK7 => ?_
 refine swp_region ty_ok ?_
 try simp (maxSteps := 1000000) [bk12]
 repeat' (first | apply And.intro | intro _)
 any_goals (first | (refine hK7 _ ?_; clear hK7) | omega | (simp_all <;> omega))
 refine swp_if fun C8 hC8 => ?_
 try simp (maxSteps := 1000000) [bk12]
 refine hC8 _ (fun hc8 => ?_) (fun hc8 => ?_)
 ·clear hC8
  try simp at hc8
  refine swp_seq fun K9 hK9 => ?_
  refine swp_region ty_ok ?_
  try simp (maxSteps := 1000000) [bk12]
  repeat' (first | apply And.intro | intro _)
  any_goals (first | (refine hK9 _ ?_; clear hK9) | omega | (simp_all <;> omega))
  refine swp_ret ?_
  simp [fnPost, Try.results27, resP, tupOf]
  obtain ⟨a1, a2, a3, a4⟩ := st_err (by have h := hc8; simpa using h)
  exact ⟨a3, a4⟩
 ·clear hC8
  try simp at hc8
  refine swp_skip ?_
  try simp only [thn, inBlk]
  refine hK6 _ ?_; clear hK6
  refine swp_seq fun K10 hK10 => ?_
  obtain ⟨n, hn, hn1, hn2⟩ := fdN_nat hp (by have h := hc8; simpa using h)
  rw [hn2]
  have hns : IntKind.i64.wrap ((n : Int) - 60) = (n : Int) - 60 := w64 (by omega)
  refine swp_region ty_ok ?_
  try simp (maxSteps := 1000000) [bk12, hn1, hns]
  repeat' (first | apply And.intro | intro _)
  any_goals (first | (refine hK10 _ ?_; clear hK10) | omega | (simp_all <;> omega))
  refine swp_ret ?_
  simp [fnPost, Try.results27, resP, tupOf]
  have h := hc8
  first | exact h.symm | exact h | omega

end Go.Proofs.Ytgheplondkoedaa

