import Derived.Test.YtgheplondkoedaaWf
import Derived.Test.YtgheplondkoedaaTyh
import Derived.Test.YtgheplondkoedaaBkq
import Derived.Test.YtgheplondkoedaaHsrt
import Derived.Test.YtgheplondkoedaaHbk
import Derived.Test.YtgheplondkoedaaHbk2
import Derived.Test.YtgheplondkoedaaHbk3
import Derived.Test.YtgheplondkoedaaHbits
import Derived.Test.YtgheplondkoedaaHrd
import Derived.Test.YtgheplondkoedaaHrdq
import Derived.Test.YtgheplondkoedaaHbits2
import Derived.Test.YtgheplondkoedaaHbk4
import Derived.Test.YtgheplondkoedaaHbk5
import Derived.Test.YtgheplondkoedaaHbk6
import Derived.Test.YtgheplondkoedaaHbk8
import Derived.Test.YtgheplondkoedaaHbk9
import Derived.Test.YtgheplondkoedaaHgrow
import Derived.Test.YtgheplondkoedaaHst
import Derived.Test.YtgheplondkoedaaHrep
import Derived.Test.YtgheplondkoedaaHputh
import Derived.Test.YtgheplondkoedaaHft
import Derived.Test.YtgheplondkoedaaHpt
import Derived.Test.YtgheplondkoedaaHsg
import Derived.Test.YtgheplondkoedaaHgh
import Derived.Test.YtgheplondkoedaaHgb
import Derived.Test.YtgheplondkoedaaHgt
import Derived.Test.YtgheplondkoedaaHgr
namespace Go.Proofs.Ytgheplondkoedaa
set_option linter.unusedVariables false
set_option linter.unusedSimpArgs false
set_option maxRecDepth 10000
open Go Go.Pv

open Go.RowKit
def TBd (b es rs vs : List Int) : Prop := b.length ≤ 10000 ∧ es.length ≤ 2000 ∧ rs.length ≤ 2000 ∧ vs.length ≤ 1000
theorem hgV_len {i : Nat} {b : List Int} {a : Int} (h1 : 1 ≤ i) (h2 : i ≤ 11) (hb : ∀ k : Nat, 0 ≤ b[k]?.getD 0 ∧ b[k]?.getD 0 ≤ 255) : (hgV i b a).length ≤ 10 := by
 by_cases h : hgE i b a = 0
 ·have := (get_got h1 h2 hb h).1
  have hd := (hkF h1 h2).d
  rw [this, hd]
  split <;> omega
 ·rw [hgV, if_neg h]
  exact Nat.zero_le _

attribute [local simp] runs gd step1 need evu un opnds opv ev cst cst1 cstL getT getH putT onL nxt argT cellsOf PV.one thn inBlk jmp fldP ldP ldC live Cells.len Cells.get Cells.w sug ldv bin eqF eq1 ops2 sh2 binv Tk.agg stC apC rdS apS cpC cpS mvL zp argsP idx fillP toInts chunks mkC ixS ixA oidx slP sl0 slA optL List.append mxF bltn frzA frz frzL frz1 pur1 Cells.pur PV.scal scal1 runD rdO PV.ids id1 zids ety Eff.on cnd minb and1b ifmax ifmin mxv sugI strv w0 w1 w2 wm1
set_option maxHeartbeats 8000000 in
theorem tells9 (b : List Int) (at_ id p : Int) (es rs vs x v : List Int) (e P E c fe : Int) (q : Bool) (hvl : v.length ≤ 10) (hput : TBd b es rs vs → PCall Try.prog 15 [.ro (.ints .u8 b), .agg [.int .i64 id, .int .i64 p, .ro (.ints .i64 es), .ro (.ints .i64 rs)], .ro (.ints .i64 vs)] (.tup [.ro (.ints .u8 x), .int .i64 e])) (hrput : TBd b es rs vs → PCall Try.prog 16 [.ro (.ints .u8 b), .agg [.int .i64 id, .int .i64 p, .ro (.ints .i64 es), .ro (.ints .i64 rs)], .ro (.ints .i64 vs)] (.tup [.ro (.ints .u8 x), .int .i64 e])) (hget : TBd b es rs vs → PCall Try.prog 17 [.ro (.ints .u8 b), .int .i64 at_, .agg [.int .i64 id, .int .i64 p, .ro (.ints .i64 es), .ro (.ints .i64 rs)]] (.tup [.ro (.ints .i64 v), .int .i64 P, .int .i64 E])) (hrget : TBd b es rs vs → PCall Try.prog 18 [.ro (.ints .u8 b), .int .i64 at_, .agg [.int .i64 id, .int .i64 p, .ro (.ints .i64 es), .ro (.ints .i64 rs)]] (.tup [.ro (.ints .i64 v), .int .i64 P, .int .i64 E])) (hcost : TBd b es rs vs → PCall Try.prog 19 [.agg [.int .i64 id, .int .i64 p, .ro (.ints .i64 es), .ro (.ints .i64 rs)], .ro (.ints .i64 vs)] (.tup [.int .i64 c, .int .i64 e])) (hrcost : TBd b es rs vs → PCall Try.prog 20 [.agg [.int .i64 id, .int .i64 p, .ro (.ints .i64 es), .ro (.ints .i64 rs)], .ro (.ints .i64 vs)] (.tup [.int .i64 c, .int .i64 e])) (hfits : TBd b es rs vs → PCall Try.prog 21 [.int .i64 id, .ro (.ints .i64 vs)] (.tup [.bool q, .int .i64 fe])) (hrfits : TBd b es rs vs → PCall Try.prog 22 [.int .i64 id, .ro (.ints .i64 vs)] (.tup [.bool q, .int .i64 fe]))  : PCall Try.prog 3 [.ro (.ints .u8 b), .int .i64 at_, .agg [.int .i64 id, .int .i64 p, .ro (.ints .i64 es), .ro (.ints .i64 rs)], .ro (.ints .i64 vs)] (.bool true) := by
 refine pcall_body ty_ok Try.func3 rfl (by rfl) (by simp) ?_
 rw [Try.ntmps3]
 refine swp_seq fun K1 hK1 => ?_
 refine swp_region ty_ok ?_
 try simp (maxSteps := 1000000)
 repeat' (first | apply And.intro | intro _)
 any_goals (first | (refine hK1 _ ?_; clear hK1) | (first | omega | (simp only [IntKind.wrap_i64] at *; omega) | (simp_all; done) | (simp_all; omega)))
 refine swp_seq fun K2 hK2 => ?_
 refine swp_seq fun K3 hK3 => ?_
 refine swp_region ty_ok ?_
 refine runs_cut 5 fun R4 hR4 => ?_
 try simp (maxSteps := 1000000) [List.take_succ_cons, List.take_zero, List.drop_succ_cons, List.drop_zero]
 repeat' (first | apply And.intro | intro _)
 any_goals (first | (refine hR4 _ ?_; clear hR4) | (first | omega | (simp only [IntKind.wrap_i64] at *; omega) | (simp_all; done) | (simp_all; omega)))
 refine runs_cut 1 fun R5 hR5 => ?_
 try simp (maxSteps := 1000000) [List.take_succ_cons, List.take_zero, List.drop_succ_cons, List.drop_zero]
 first | refine .inl ⟨_, fun hb => .inl ⟨great_ok id p es rs, rfl⟩, ?_⟩ | refine .inl ⟨_, .inl ⟨great_ok id p es rs, rfl⟩, ?_⟩ | refine .inl ⟨_, fun hb => .inl (great_ok id p es rs), ?_⟩ | refine .inl ⟨_, .inl (great_ok id p es rs), ?_⟩ | refine .inl ⟨_, by (intros; exact Or.inl (great_ok id p es rs)), ?_⟩ | refine .inl ⟨_, by (intros; exact Or.inl ⟨great_ok id p es rs, rfl⟩), ?_⟩ | refine .inl ⟨_, fun hb => .inl ⟨_, great_ok id p es rs, by (try simp); exact ⟨rfl, rfl⟩⟩, ?_⟩
 repeat' (first | apply And.intro | intro _)
 any_goals (first | (refine hR5 _ ?_; clear hR5) | (first | omega | (simp only [IntKind.wrap_i64] at *; omega) | (simp_all; done) | (simp_all; omega)))
 try simp (maxSteps := 1000000) [List.take_succ_cons, List.take_zero, List.drop_succ_cons, List.drop_zero]
 repeat' (first | apply And.intro | intro _)
 any_goals (first | (refine hK3 _ ?_; clear hK3) | (first | omega | (simp only [IntKind.wrap_i64] at *; omega) | (simp_all; done) | (simp_all; omega)))
 refine swp_if fun C6 hC6 => ?_
 try simp (maxSteps := 1000000)
 refine hC6 _ (fun hc6 => ?_) (fun hc6 => ?_)
 ·clear hC6
  try simp at hc6
  refine swp_seq fun K7 hK7 => ?_
  refine swp_region ty_ok ?_
  try simp (maxSteps := 1000000)
  repeat' (first | apply And.intro | intro _)
  any_goals (first | (refine hK7 _ ?_; clear hK7) | (first | omega | (simp only [IntKind.wrap_i64] at *; omega) | (simp_all; done) | (simp_all; omega)))
  refine swp_ret ?_
  simp [fnPost, Try.results3, resP, tupOf]
 ·clear hC6
  try simp at hc6
  refine swp_skip ?_
  try simp only [thn, inBlk]
  refine hK2 _ ?_; clear hK2
  refine swp_seq fun K8 hK8 => ?_
  have hbd : TBd b es rs vs := (by have h := hc6; unfold TBd; omega)
  have hv10 : vs.length ≤ 1000 := hbd.2.2.2
  refine swp_region ty_ok ?_
  try simp (maxSteps := 1000000)
  repeat' (first | apply And.intro | intro _)
  any_goals (first | (refine hK8 _ ?_; clear hK8) | (first | omega | (simp only [IntKind.wrap_i64] at *; omega) | (simp_all; done) | (simp_all; omega)))
  refine swp_seq fun K9 hK9 => ?_
  refine swp_region ty_ok ?_
  refine runs_cut 1 fun R10 hR10 => ?_
  try simp (maxSteps := 1000000) [List.take_succ_cons, List.take_zero, List.drop_succ_cons, List.drop_zero]
  repeat' (first | apply And.intro | intro _)
  any_goals (first | (refine Or.inr (hR10 _ ?_); clear hR10) | (first | omega | (simp only [IntKind.wrap_i64] at *; omega) | (simp_all; done) | (simp_all; omega)))
  try simp (maxSteps := 1000000) [List.take_succ_cons, List.take_zero, List.drop_succ_cons, List.drop_zero]
  repeat' (first | apply And.intro | intro _)
  any_goals (first | (refine hK9 _ ?_; clear hK9) | (first | omega | (simp only [IntKind.wrap_i64] at *; omega) | (simp_all; done) | (simp_all; omega)))
  refine swp_seq fun K11 hK11 => ?_
  refine swp_frz [10] (ps := [.ro (.ints .i64 vs)]) (is := [1]) (by simp [getT, getH, frzA, frz, frz1, Cells.len]) ?_
  simp only [onL, kills, List.map_cons, List.map_nil, List.zip_cons_cons, List.zip_nil_left, List.zip_nil_right, List.cons_append, List.nil_append]
  refine swp_region ty_ok ?_
  refine runs_cut 3 fun R12 hR12 => ?_
  try simp (maxSteps := 1000000) [List.take_succ_cons, List.take_zero, List.drop_succ_cons, List.drop_zero]
  repeat' (first | apply And.intro | intro _)
  any_goals (first | (refine hR12 _ ?_; clear hR12) | (first | omega | (simp only [IntKind.wrap_i64] at *; omega) | (simp_all; done) | (simp_all; omega)))
  refine runs_cut 1 fun R13 hR13 => ?_
  try simp (maxSteps := 1000000) [List.take_succ_cons, List.take_zero, List.drop_succ_cons, List.drop_zero]
  refine .inl ⟨_, hput hbd, ?_⟩
  try simp (maxSteps := 1000000)
  repeat' (first | apply And.intro | intro _)
  any_goals (first | (refine hR13 _ ?_; clear hR13) | (first | omega | (simp only [IntKind.wrap_i64] at *; omega) | (simp_all; done) | (simp_all; omega)))
  try simp (maxSteps := 1000000) [List.take_succ_cons, List.take_zero, List.drop_succ_cons, List.drop_zero]
  repeat' (first | apply And.intro | intro _)
  any_goals (first | (refine hK11 _ ?_; clear hK11) | (first | omega | (simp only [IntKind.wrap_i64] at *; omega) | (simp_all; done) | (simp_all; omega)))
  refine swp_seq fun K14 hK14 => ?_
  refine swp_region ty_ok ?_
  refine runs_cut 3 fun R15 hR15 => ?_
  try simp (maxSteps := 1000000) [List.take_succ_cons, List.take_zero, List.drop_succ_cons, List.drop_zero]
  repeat' (first | apply And.intro | intro _)
  any_goals (first | (refine hR15 _ ?_; clear hR15) | (first | omega | (simp only [IntKind.wrap_i64] at *; omega) | (simp_all; done) | (simp_all; omega)))
  refine runs_cut 1 fun R16 hR16 => ?_
  try simp (maxSteps := 1000000) [List.take_succ_cons, List.take_zero, List.drop_succ_cons, List.drop_zero]
  refine .inl ⟨_, hrput hbd, ?_⟩
  try simp (maxSteps := 1000000)
  repeat' (first | apply And.intro | intro _)
  any_goals (first | (refine hR16 _ ?_; clear hR16) | (first | omega | (simp only [IntKind.wrap_i64] at *; omega) | (simp_all; done) | (simp_all; omega)))
  try simp (maxSteps := 1000000) [List.take_succ_cons, List.take_zero, List.drop_succ_cons, List.drop_zero]
  repeat' (first | apply And.intro | intro _)
  any_goals (first | (refine hK14 _ ?_; clear hK14) | (first | omega | (simp only [IntKind.wrap_i64] at *; omega) | (simp_all; done) | (simp_all; omega)))
  refine swp_seq fun K17 hK17 => ?_
  refine swp_region ty_ok ?_
  refine runs_cut 3 fun R18 hR18 => ?_
  try simp (maxSteps := 1000000) [List.take_succ_cons, List.take_zero, List.drop_succ_cons, List.drop_zero]
  repeat' (first | apply And.intro | intro _)
  any_goals (first | (refine hR18 _ ?_; clear hR18) | (first | omega | (simp only [IntKind.wrap_i64] at *; omega) | (simp_all; done) | (simp_all; omega)))
  refine runs_cut 1 fun R19 hR19 => ?_
  try simp (maxSteps := 1000000) [List.take_succ_cons, List.take_zero, List.drop_succ_cons, List.drop_zero]
  refine .inl ⟨_, hget hbd, ?_⟩
  try simp (maxSteps := 1000000)
  repeat' (first | apply And.intro | intro _)
  any_goals (first | (refine hR19 _ ?_; clear hR19) | (first | omega | (simp only [IntKind.wrap_i64] at *; omega) | (simp_all; done) | (simp_all; omega)))
  try simp (maxSteps := 1000000) [List.take_succ_cons, List.take_zero, List.drop_succ_cons, List.drop_zero]
  repeat' (first | apply And.intro | intro _)
  any_goals (first | (refine hK17 _ ?_; clear hK17) | (first | omega | (simp only [IntKind.wrap_i64] at *; omega) | (simp_all; done) | (simp_all; omega)))
  refine swp_seq fun K20 hK20 => ?_
  refine swp_region ty_ok ?_
  refine runs_cut 3 fun R21 hR21 => ?_
  try simp (maxSteps := 1000000) [List.take_succ_cons, List.take_zero, List.drop_succ_cons, List.drop_zero]
  repeat' (first | apply And.intro | intro _)
  any_goals (first | (refine hR21 _ ?_; clear hR21) | (first | omega | (simp only [IntKind.wrap_i64] at *; omega) | (simp_all; done) | (simp_all; omega)))
  refine runs_cut 1 fun R22 hR22 => ?_
  try simp (maxSteps := 1000000) [List.take_succ_cons, List.take_zero, List.drop_succ_cons, List.drop_zero]
  refine .inl ⟨_, hrget hbd, ?_⟩
  try simp (maxSteps := 1000000)
  repeat' (first | apply And.intro | intro _)
  any_goals (first | (refine hR22 _ ?_; clear hR22) | (first | omega | (simp only [IntKind.wrap_i64] at *; omega) | (simp_all; done) | (simp_all; omega)))
  try simp (maxSteps := 1000000) [List.take_succ_cons, List.take_zero, List.drop_succ_cons, List.drop_zero]
  repeat' (first | apply And.intro | intro _)
  any_goals (first | (refine hK20 _ ?_; clear hK20) | (first | omega | (simp only [IntKind.wrap_i64] at *; omega) | (simp_all; done) | (simp_all; omega)))
  refine swp_seq fun K23 hK23 => ?_
  refine swp_region ty_ok ?_
  refine runs_cut 2 fun R24 hR24 => ?_
  try simp (maxSteps := 1000000) [List.take_succ_cons, List.take_zero, List.drop_succ_cons, List.drop_zero]
  repeat' (first | apply And.intro | intro _)
  any_goals (first | (refine hR24 _ ?_; clear hR24) | (first | omega | (simp only [IntKind.wrap_i64] at *; omega) | (simp_all; done) | (simp_all; omega)))
  refine runs_cut 1 fun R25 hR25 => ?_
  try simp (maxSteps := 1000000) [List.take_succ_cons, List.take_zero, List.drop_succ_cons, List.drop_zero]
  refine .inl ⟨_, hcost hbd, ?_⟩
  try simp (maxSteps := 1000000)
  repeat' (first | apply And.intro | intro _)
  any_goals (first | (refine hR25 _ ?_; clear hR25) | (first | omega | (simp only [IntKind.wrap_i64] at *; omega) | (simp_all; done) | (simp_all; omega)))
  try simp (maxSteps := 1000000) [List.take_succ_cons, List.take_zero, List.drop_succ_cons, List.drop_zero]
  repeat' (first | apply And.intro | intro _)
  any_goals (first | (refine hK23 _ ?_; clear hK23) | (first | omega | (simp only [IntKind.wrap_i64] at *; omega) | (simp_all; done) | (simp_all; omega)))
  refine swp_seq fun K26 hK26 => ?_
  refine swp_region ty_ok ?_
  refine runs_cut 2 fun R27 hR27 => ?_
  try simp (maxSteps := 1000000) [List.take_succ_cons, List.take_zero, List.drop_succ_cons, List.drop_zero]
  repeat' (first | apply And.intro | intro _)
  any_goals (first | (refine hR27 _ ?_; clear hR27) | (first | omega | (simp only [IntKind.wrap_i64] at *; omega) | (simp_all; done) | (simp_all; omega)))
  refine runs_cut 1 fun R28 hR28 => ?_
  try simp (maxSteps := 1000000) [List.take_succ_cons, List.take_zero, List.drop_succ_cons, List.drop_zero]
  refine .inl ⟨_, hrcost hbd, ?_⟩
  try simp (maxSteps := 1000000)
  repeat' (first | apply And.intro | intro _)
  any_goals (first | (refine hR28 _ ?_; clear hR28) | (first | omega | (simp only [IntKind.wrap_i64] at *; omega) | (simp_all; done) | (simp_all; omega)))
  try simp (maxSteps := 1000000) [List.take_succ_cons, List.take_zero, List.drop_succ_cons, List.drop_zero]
  repeat' (first | apply And.intro | intro _)
  any_goals (first | (refine hK26 _ ?_; clear hK26) | (first | omega | (simp only [IntKind.wrap_i64] at *; omega) | (simp_all; done) | (simp_all; omega)))
  refine swp_seq fun K29 hK29 => ?_
  refine swp_region ty_ok ?_
  refine runs_cut 3 fun R30 hR30 => ?_
  try simp (maxSteps := 1000000) [List.take_succ_cons, List.take_zero, List.drop_succ_cons, List.drop_zero]
  repeat' (first | apply And.intro | intro _)
  any_goals (first | (refine hR30 _ ?_; clear hR30) | (first | omega | (simp only [IntKind.wrap_i64] at *; omega) | (simp_all; done) | (simp_all; omega)))
  refine runs_cut 1 fun R31 hR31 => ?_
  try simp (maxSteps := 1000000) [List.take_succ_cons, List.take_zero, List.drop_succ_cons, List.drop_zero]
  refine .inl ⟨_, hfits hbd, ?_⟩
  try simp (maxSteps := 1000000)
  repeat' (first | apply And.intro | intro _)
  any_goals (first | (refine hR31 _ ?_; clear hR31) | (first | omega | (simp only [IntKind.wrap_i64] at *; omega) | (simp_all; done) | (simp_all; omega)))
  try simp (maxSteps := 1000000) [List.take_succ_cons, List.take_zero, List.drop_succ_cons, List.drop_zero]
  repeat' (first | apply And.intro | intro _)
  any_goals (first | (refine hK29 _ ?_; clear hK29) | (first | omega | (simp only [IntKind.wrap_i64] at *; omega) | (simp_all; done) | (simp_all; omega)))
  refine swp_seq fun K32 hK32 => ?_
  refine swp_region ty_ok ?_
  refine runs_cut 3 fun R33 hR33 => ?_
  try simp (maxSteps := 1000000) [List.take_succ_cons, List.take_zero, List.drop_succ_cons, List.drop_zero]
  repeat' (first | apply And.intro | intro _)
  any_goals (first | (refine hR33 _ ?_; clear hR33) | (first | omega | (simp only [IntKind.wrap_i64] at *; omega) | (simp_all; done) | (simp_all; omega)))
  refine runs_cut 1 fun R34 hR34 => ?_
  try simp (maxSteps := 1000000) [List.take_succ_cons, List.take_zero, List.drop_succ_cons, List.drop_zero]
  refine .inl ⟨_, hrfits hbd, ?_⟩
  try simp (maxSteps := 1000000)
  repeat' (first | apply And.intro | intro _)
  any_goals (first | (refine hR34 _ ?_; clear hR34) | (first | omega | (simp only [IntKind.wrap_i64] at *; omega) | (simp_all; done) | (simp_all; omega)))
  try simp (maxSteps := 1000000) [List.take_succ_cons, List.take_zero, List.drop_succ_cons, List.drop_zero]
  repeat' (first | apply And.intro | intro _)
  any_goals (first | (refine hK32 _ ?_; clear hK32) | (first | omega | (simp only [IntKind.wrap_i64] at *; omega) | (simp_all; done) | (simp_all; omega)))
  refine swp_seq fun K35 hK35 => ?_
  refine swp_region ty_ok ?_
  refine runs_cut 6 fun R36 hR36 => ?_
  try simp (maxSteps := 1000000) [List.take_succ_cons, List.take_zero, List.drop_succ_cons, List.drop_zero]
  repeat' (first | apply And.intro | intro _)
  any_goals (first | (refine hR36 _ ?_; clear hR36) | (first | omega | (simp only [IntKind.wrap_i64] at *; omega) | (simp_all; done) | (simp_all; omega)))
  refine runs_cut 7 fun R37 hR37 => ?_
  try simp (maxSteps := 1000000) [List.take_succ_cons, List.take_zero, List.drop_succ_cons, List.drop_zero]
  repeat' (first | apply And.intro | intro _)
  any_goals (first | (refine hR37 _ ?_; clear hR37) | (first | omega | (simp only [IntKind.wrap_i64] at *; omega) | (simp_all; done) | (simp_all; omega)))
  refine runs_cut 1 fun R38 hR38 => ?_
  try simp (maxSteps := 1000000) [List.take_succ_cons, List.take_zero, List.drop_succ_cons, List.drop_zero]
  first | refine .inl ⟨_, fun hb => .inl ⟨reedpiperef06_Ints_ok v v (by omega), rfl⟩, ?_⟩ | refine .inl ⟨_, .inl ⟨reedpiperef06_Ints_ok v v (by omega), rfl⟩, ?_⟩ | refine .inl ⟨_, fun hb => .inl (reedpiperef06_Ints_ok v v (by omega)), ?_⟩ | refine .inl ⟨_, .inl (reedpiperef06_Ints_ok v v (by omega)), ?_⟩ | refine .inl ⟨_, by (intros; exact Or.inl (reedpiperef06_Ints_ok v v (by omega))), ?_⟩ | refine .inl ⟨_, by (intros; exact Or.inl ⟨reedpiperef06_Ints_ok v v (by omega), rfl⟩), ?_⟩ | refine .inl ⟨_, fun hb => .inl ⟨_, reedpiperef06_Ints_ok v v (by omega), by (try simp); exact ⟨rfl, rfl⟩⟩, ?_⟩
  repeat' (first | apply And.intro | intro _)
  any_goals (first | (refine hR38 _ ?_; clear hR38) | (first | omega | (simp only [IntKind.wrap_i64] at *; omega) | (simp_all; done) | (simp_all; omega)))
  try simp (maxSteps := 1000000) [List.take_succ_cons, List.take_zero, List.drop_succ_cons, List.drop_zero]
  repeat' (first | apply And.intro | intro _)
  any_goals (first | (refine hK35 _ ?_; clear hK35) | (first | omega | (simp only [IntKind.wrap_i64] at *; omega) | (simp_all; done) | (simp_all; omega)))
  refine swp_seq fun K39 hK39 => ?_
  refine swp_region ty_ok ?_
  refine runs_cut 10 fun R40 hR40 => ?_
  try simp (maxSteps := 1000000) [List.take_succ_cons, List.take_zero, List.drop_succ_cons, List.drop_zero]
  repeat' (first | apply And.intro | intro _)
  any_goals (first | (refine hR40 _ ?_; clear hR40) | (first | omega | (simp only [IntKind.wrap_i64] at *; omega) | (simp_all; done) | (simp_all; omega)))
  refine runs_cut 10 fun R41 hR41 => ?_
  try simp (maxSteps := 1000000) [List.take_succ_cons, List.take_zero, List.drop_succ_cons, List.drop_zero]
  repeat' (first | apply And.intro | intro _)
  any_goals (first | (refine hR41 _ ?_; clear hR41) | (first | omega | (simp only [IntKind.wrap_i64] at *; omega) | (simp_all; done) | (simp_all; omega)))
  refine runs_cut 10 fun R42 hR42 => ?_
  try simp (maxSteps := 1000000) [List.take_succ_cons, List.take_zero, List.drop_succ_cons, List.drop_zero]
  repeat' (first | apply And.intro | intro _)
  any_goals (first | (refine hR42 _ ?_; clear hR42) | (first | omega | (simp only [IntKind.wrap_i64] at *; omega) | (simp_all; done) | (simp_all; omega)))
  refine runs_cut 1 fun R43 hR43 => ?_
  try simp (maxSteps := 1000000) [List.take_succ_cons, List.take_zero, List.drop_succ_cons, List.drop_zero]
  first | refine .inl ⟨_, fun hb => .inl ⟨reedpiperef06_Ints_ok vs vs (by omega), rfl⟩, ?_⟩ | refine .inl ⟨_, .inl ⟨reedpiperef06_Ints_ok vs vs (by omega), rfl⟩, ?_⟩ | refine .inl ⟨_, fun hb => .inl (reedpiperef06_Ints_ok vs vs (by omega)), ?_⟩ | refine .inl ⟨_, .inl (reedpiperef06_Ints_ok vs vs (by omega)), ?_⟩ | refine .inl ⟨_, by (intros; exact Or.inl (reedpiperef06_Ints_ok vs vs (by omega))), ?_⟩ | refine .inl ⟨_, by (intros; exact Or.inl ⟨reedpiperef06_Ints_ok vs vs (by omega), rfl⟩), ?_⟩ | refine .inl ⟨_, fun hb => .inl ⟨_, reedpiperef06_Ints_ok vs vs (by omega), by (try simp); exact ⟨rfl, rfl⟩⟩, ?_⟩
  repeat' (first | apply And.intro | intro _)
  any_goals (first | (refine hR43 _ ?_; clear hR43) | (first | omega | (simp only [IntKind.wrap_i64] at *; omega) | (simp_all; done) | (simp_all; omega)))
  try simp (maxSteps := 1000000) [List.take_succ_cons, List.take_zero, List.drop_succ_cons, List.drop_zero]
  repeat' (first | apply And.intro | intro _)
  any_goals (first | (refine hK39 _ ?_; clear hK39) | (first | omega | (simp only [IntKind.wrap_i64] at *; omega) | (simp_all; done) | (simp_all; omega)))
  refine swp_ret ?_
  simp [fnPost, Try.results3, resP, tupOf]

theorem tells9_all (b : List Int) (at_ id p : Int) (es rs vs : List Int) (hb : ∀ k : Nat, 0 ≤ b[k]?.getD 0 ∧ b[k]?.getD 0 ≤ 255) (hat : -9223372036854775808 ≤ at_ ∧ at_ ≤ 9223372036854775807) : PCall Try.prog 3 [.ro (.ints .u8 b), .int .i64 at_, .agg [.int .i64 id, .int .i64 p, .ro (.ints .i64 es), .ro (.ints .i64 rs)], .ro (.ints .i64 vs)] (.bool true) := by
 cases hr : rightB id p es rs with
 | true =>
  obtain ⟨i, rfl, h1, h12, rfl, rfl, rfl⟩ := right_iff.1 hr
  by_cases h2 : i ≤ 11
  ·have hget := fun (h : TBd b (bE i) (bR i) vs) => hget_ok i h1 h2 b at_ (by have := h.1; omega) hb hat
   have hrget := fun (h : TBd b (bE i) (bR i) vs) => rhget_ok i h1 h2 b at_ (by have := h.1; omega) hb hat
   by_cases hd : vs.length = bDim i
   ·cases hf : hFit i vs with
    | true =>
     have hl := huffL_len h1 h2 hd hf
     have hfi := fits_ok i h1 h2 vs hd
     have hrf := rfits_ok i h1 h2 vs hd
     rw [hf] at hfi hrf
     exact tells9 b at_ _ _ _ _ vs _ _ _ _ _ _ _ _ (hgV_len h1 h2 hb) (fun h => hput_ok i h1 h2 b vs hd hf (by have := h.1; omega)) (fun h => rhput_ok i h1 h2 b vs hd hf (by have := h.1; omega)) hget hrget (fun _ => cost_ok _ _ _ _ vs (huffL i vs) 0 (by omega) (hput_ok i h1 h2 [] vs hd hf (by simp))) (fun _ => rhcost_ok _ _ _ _ vs (huffL i vs) 0 (by omega) (rhput_ok i h1 h2 [] vs hd hf (by simp))) (fun _ => hfi) (fun _ => hrf)
    | false =>
     exact tells9 b at_ _ _ _ _ vs _ _ _ _ _ _ _ _ (hgV_len h1 h2 hb) (fun _ => hput_nofit i h1 h2 b vs hd hf) (fun _ => rhput_nofit i h1 h2 b vs hd hf) hget hrget (fun _ => cost_ok _ _ _ _ vs [] 2 (by simp) (hput_nofit i h1 h2 [] vs hd hf)) (fun _ => rhcost_ok _ _ _ _ vs [] 2 (by simp) (rhput_nofit i h1 h2 [] vs hd hf)) (fun _ => fits_ok i h1 h2 vs hd) (fun _ => rfits_ok i h1 h2 vs hd)
   ·exact tells9 b at_ _ _ _ _ vs _ _ _ _ _ _ _ _ (hgV_len h1 h2 hb) (fun _ => hput_many i h1 h2 b vs hd) (fun _ => rhput_many i h1 h2 b vs hd) hget hrget (fun _ => cost_ok _ _ _ _ vs [] 4 (by simp) (hput_many i h1 h2 [] vs hd)) (fun _ => rhcost_ok _ _ _ _ vs [] 4 (by simp) (rhput_many i h1 h2 [] vs hd)) (fun _ => fits_many i h1 h2 vs hd) (fun _ => rfits_many i h1 h2 vs hd)
  ·have h12' : i = 12 := by omega
   subst h12'
   have h2' : ¬ (2 : Int) = 0 := by omega
   exact tells9 b at_ _ _ _ _ vs [] [] 2 _ _ _ _ _ (by simp) (fun _ => hput_12 b vs) (fun _ => rhput_e _ _ _ _ 2 h2' asked_12 b vs) (fun _ => hget_12 b at_) (fun _ => rhget_e _ _ _ _ 2 h2' asked_12 b at_) (fun _ => cost_ok _ _ _ _ vs [] 2 (by simp) (hput_12 [] vs)) (fun _ => rhcost_ok _ _ _ _ vs [] 2 (by simp) (rhput_e _ _ _ _ 2 h2' asked_12 [] vs)) (fun _ => fits_no 12 (by omega) vs) (fun _ => rfits_no 12 (by omega) vs)
 | false =>
  have h8 : ¬ (8 : Int) = 0 := by omega
  have hask := fun (h : TBd b es rs vs) => asked_no id p es rs (by have := h.2.1; omega) (by have := h.2.2.1; omega) hr
  have key : ∀ (q : Bool) (fe : Int), PCall Try.prog 21 [.int .i64 id, .ro (.ints .i64 vs)] (.tup [.bool q, .int .i64 fe]) → PCall Try.prog 22 [.int .i64 id, .ro (.ints .i64 vs)] (.tup [.bool q, .int .i64 fe]) → (∀ b, PCall Try.prog 15 [.ro (.ints .u8 b), .agg [.int .i64 id, .int .i64 p, .ro (.ints .i64 es), .ro (.ints .i64 rs)], .ro (.ints .i64 vs)] (.tup [.ro (.ints .u8 []), .int .i64 8])) → PCall Try.prog 3 [.ro (.ints .u8 b), .int .i64 at_, .agg [.int .i64 id, .int .i64 p, .ro (.ints .i64 es), .ro (.ints .i64 rs)], .ro (.ints .i64 vs)] (.bool true) := fun q fe hf hrf hput =>
   tells9 b at_ _ _ _ _ vs [] [] 8 _ _ _ _ _ (by simp) (fun _ => hput b) (fun h => rhput_e _ _ _ _ 8 h8 (hask h) b vs) (fun _ => hget_no id p es rs hr b at_) (fun h => rhget_e _ _ _ _ 8 h8 (hask h) b at_) (fun _ => cost_ok _ _ _ _ vs [] 8 (by simp) (hput [])) (fun h => rhcost_ok _ _ _ _ vs [] 8 (by simp) (rhput_e _ _ _ _ 8 h8 (hask h) [] vs)) (fun _ => hf) (fun _ => hrf)
  by_cases hid : id < 1 ∨ 11 < id
  ·exact key _ _ (fits_no id hid vs) (rfits_no id hid vs) fun b => hput_bad id p es rs hr b vs _ _ (fits_no id hid vs) (.inl (by omega))
  ·obtain ⟨i, rfl⟩ := Int.eq_ofNat_of_zero_le (show 0 ≤ id by omega)
   have h1 : 1 ≤ i := by omega
   have h2 : i ≤ 11 := by omega
   by_cases hd : vs.length = bDim i
   ·have hfi := fits_ok i h1 h2 vs hd
    have hrf := rfits_ok i h1 h2 vs hd
    cases hf : hFit i vs with
    | true =>
     rw [hf] at hfi hrf
     exact key _ _ hfi hrf fun b => hput_odd i h1 h2 p es rs hr b vs hd hf
    | false =>
     rw [hf] at hfi hrf
     exact key _ _ hfi hrf fun b => hput_bad i p es rs hr b vs _ _ hfi (.inr rfl)
   ·exact key _ _ (fits_many i h1 h2 vs hd) (rfits_many i h1 h2 vs hd) fun b => hput_bad i p es rs hr b vs _ _ (fits_many i h1 h2 vs hd) (.inl (by omega))

end Go.Proofs.Ytgheplondkoedaa

