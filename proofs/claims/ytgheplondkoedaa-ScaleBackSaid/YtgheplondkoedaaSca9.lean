import Derived.Test.YtgheplondkoedaaWf
import Derived.Test.YtgheplondkoedaaTyh
import Derived.Test.YtgheplondkoedaaHbits
import Derived.Test.YtgheplondkoedaaHbits2
import Derived.Test.YtgheplondkoedaaHsrt
import Derived.Test.YtgheplondkoedaaHbk
import Derived.Test.YtgheplondkoedaaHst
import Derived.Test.YtgheplondkoedaaHbk5
import Derived.Test.YtgheplondkoedaaHbk9
import Derived.Test.YtgheplondkoedaaSca
import Derived.Test.YtgheplondkoedaaSca2
import Derived.Test.YtgheplondkoedaaSca3
import Derived.Test.YtgheplondkoedaaSca4
import Derived.Test.YtgheplondkoedaaSca5
import Derived.Test.YtgheplondkoedaaSca6
import Derived.Test.YtgheplondkoedaaSca7
import Derived.Test.YtgheplondkoedaaSca8
namespace Go.Proofs.Ytgheplondkoedaa
set_option linter.unusedVariables false
set_option linter.unusedSimpArgs false
set_option maxRecDepth 10000
open Go Go.Pv

open Go.RowKit
theorem bdL_bits {a : Int × Int} {b n : Int} : ∀ y ∈ bdL a b n, 0 ≤ y ∧ y ≤ 1 := by
 intro y hy
 have hs : ∀ d, y ∈ stepL d → 0 ≤ y ∧ y ≤ 1 := fun d h => by
  have := codeL_bits 0 (rkS d) y h
  omega
 unfold bdL at hy
 split at hy
 ·simp at hy
 ·split at hy
  ·have := bitsOf_bit _ _ y hy
   omega
  ·split at hy
   ·exact hs _ hy
   ·exact hs _ hy
theorem rwB_bits {bs ns : List Int} {a : Int × Int} : ∀ k, ∀ y ∈ rwB bs ns a k, 0 ≤ y ∧ y ≤ 1
 | 0 => fun y hy => by simp [rwB] at hy
 | k + 1 => fun y hy => by
  rw [rwB, List.mem_append] at hy
  rcases hy with hy | hy
  ·exact rwB_bits k y hy
  ·exact bdL_bits y hy
theorem gB_bits {l : List (List Sc)} {st : List (List Int)} {ga : Int} : ∀ k, ∀ y ∈ gB l st ga k, 0 ≤ y ∧ y ≤ 1
 | 0 => fun y hy => by simp [gB] at hy
 | k + 1 => fun y hy => by
  rw [gB, List.mem_append] at hy
  rcases hy with hy | hy
  ·exact gB_bits k y hy
  ·exact rwB_bits _ y hy
theorem sgR_bd {b : List Int} (hb : ∀ y ∈ b, 0 ≤ y ∧ y ≤ 255) (a ga : Int) (l : List (List Sc)) : (sgR b a ga l).1.length ≤ 8 ∧ ∀ w ∈ (sgR b a ga l).1, w.length ≤ 40 := by
 by_cases h : (sgR b a ga l).2.2 = 0
 ·obtain ⟨h1, h2, h3⟩ := sgR_ok hb h
  obtain ⟨c1, c2, c3⟩ := chS_ok h1
  obtain ⟨d1, d2⟩ := mayG_true c1
  refine ⟨by omega, fun w hw => ?_⟩
  obtain ⟨k, hk, rfl⟩ := List.getElem_of_mem hw
  have he := (oG_at c3 (k := k) (by omega)).1
  rw [List.getElem?_eq_getElem hk] at he
  have := RW_40 d2 k
  simp only [Option.getD_some] at he
  omega
 ·rw [(sgR_no h).1]
  simp
theorem caC0 : chS 100 [[⟨1, 2⟩]] [[100, 101]] = 0 := by decide +kernel
theorem caC1 : chS 0 [[⟨13, 2⟩]] [[5, 4]] = 0 := by decide +kernel
theorem caA0 : gB [[⟨1, 2⟩]] [[100, 101]] 100 1 = [1, 0, 1, 1] := by decide +kernel
theorem caA1 : gB [[⟨13, 2⟩]] [[5, 4]] 0 1 = [0, 0, 0, 0, 0, 0, 1, 0, 1, 0, 1, 0] := by decide +kernel
attribute [local simp] runs gd step1 need evu un opnds opv ev cst cst1 cstL getT getH putT onL nxt argT cellsOf PV.one thn inBlk jmp fldP ldP ldC live Cells.len Cells.get Cells.w sug ldv bin eqF eq1 ops2 sh2 binv Tk.agg stC apC rdS apS cpC cpS mvL zp argsP idx fillP toInts chunks mkC ixS ixA oidx slP sl0 slA optL List.append mxF bltn frzA frz frzL frz1 pur1 Cells.pur PV.scal scal1 runD rdO PV.ids id1 zids ety Eff.on cnd minb and1b ifmax ifmin mxv sugI strv w0 w1 w2 wm1
theorem alive20  : PCall Try.prog 30 [] (.bool true) := by
 refine pcall_body ty_ok Try.func30 rfl (by rfl) (by simp) ?_
 rw [Try.ntmps30]
 refine swp_seq fun K1 hK1 => ?_
 refine swp_region ty_ok ?_
 try simp (maxSteps := 1000000) [caA0, caA1]
 repeat' (first | apply And.intro | intro _)
 any_goals (first | (refine hK1 _ ?_; clear hK1) | omega | (simp_all <;> omega))
 refine swp_seq fun K2 hK2 => ?_
 refine swp_region ty_ok ?_
 refine runs_cut 1 fun R3 hR3 => ?_
 try simp (maxSteps := 1000000) [caA0, caA1, List.take_succ_cons, List.take_zero, List.drop_succ_cons, List.drop_zero]
 repeat' (first | apply And.intro | intro _)
 any_goals (first | (refine hR3 _ ?_; clear hR3) | omega | (simp_all <;> omega))
 refine runs_cut 1 fun R4 hR4 => ?_
 try simp (maxSteps := 1000000) [caA0, caA1, List.take_succ_cons, List.take_zero, List.drop_succ_cons, List.drop_zero]
 repeat' (first | apply And.intro | intro _)
 any_goals (first | (refine Or.inl (hR4 _ ?_); clear hR4) | omega | (simp_all <;> omega))
 refine runs_cut 1 fun R5 hR5 => ?_
 try simp (maxSteps := 1000000) [caA0, caA1, List.take_succ_cons, List.take_zero, List.drop_succ_cons, List.drop_zero]
 repeat' (first | apply And.intro | intro _)
 any_goals (first | (refine Or.inl (hR5 _ ?_); clear hR5) | omega | (simp_all <;> omega))
 refine runs_cut 1 fun R6 hR6 => ?_
 try simp (maxSteps := 1000000) [caA0, caA1, List.take_succ_cons, List.take_zero, List.drop_succ_cons, List.drop_zero]
 repeat' (first | apply And.intro | intro _)
 any_goals (first | (refine Or.inl (hR6 _ ?_); clear hR6) | omega | (simp_all <;> omega))
 refine runs_cut 1 fun R7 hR7 => ?_
 try simp (maxSteps := 1000000) [caA0, caA1, List.take_succ_cons, List.take_zero, List.drop_succ_cons, List.drop_zero]
 repeat' (first | apply And.intro | intro _)
 any_goals (first | (refine Or.inl (hR7 _ ?_); clear hR7) | omega | (simp_all <;> omega))
 refine runs_cut 1 fun R8 hR8 => ?_
 try simp (maxSteps := 1000000) [caA0, caA1, List.take_succ_cons, List.take_zero, List.drop_succ_cons, List.drop_zero]
 refine .inl ⟨_, (by have h := put20_ok [] 100 [[⟨1, 2⟩]] [[100, 101]] (by simp) (by simp) (by simp) (by simp) (by simp); rw [caC0] at h; exact h), ?_⟩
 try simp (maxSteps := 1000000) [caA0, caA1]
 repeat' (first | apply And.intro | intro _)
 any_goals (first | (refine hR8 _ ?_; clear hR8) | omega | (simp_all <;> omega))
 try simp (maxSteps := 1000000) [caA0, caA1, List.take_succ_cons, List.take_zero, List.drop_succ_cons, List.drop_zero]
 repeat' (first | apply And.intro | intro _)
 any_goals (first | (refine hK2 _ ?_; clear hK2) | omega | (simp_all <;> omega))
 refine swp_seq fun K9 hK9 => ?_
 refine swp_region ty_ok ?_
 refine runs_cut 1 fun R10 hR10 => ?_
 try simp (maxSteps := 1000000) [caA0, caA1, List.take_succ_cons, List.take_zero, List.drop_succ_cons, List.drop_zero]
 repeat' (first | apply And.intro | intro _)
 any_goals (first | (refine hR10 _ ?_; clear hR10) | omega | (simp_all <;> omega))
 refine runs_cut 1 fun R11 hR11 => ?_
 try simp (maxSteps := 1000000) [caA0, caA1, List.take_succ_cons, List.take_zero, List.drop_succ_cons, List.drop_zero]
 repeat' (first | apply And.intro | intro _)
 any_goals (first | (refine Or.inl (hR11 _ ?_); clear hR11) | omega | (simp_all <;> omega))
 refine runs_cut 1 fun R12 hR12 => ?_
 try simp (maxSteps := 1000000) [caA0, caA1, List.take_succ_cons, List.take_zero, List.drop_succ_cons, List.drop_zero]
 repeat' (first | apply And.intro | intro _)
 any_goals (first | (refine Or.inl (hR12 _ ?_); clear hR12) | omega | (simp_all <;> omega))
 refine runs_cut 1 fun R13 hR13 => ?_
 try simp (maxSteps := 1000000) [caA0, caA1, List.take_succ_cons, List.take_zero, List.drop_succ_cons, List.drop_zero]
 repeat' (first | apply And.intro | intro _)
 any_goals (first | (refine Or.inl (hR13 _ ?_); clear hR13) | omega | (simp_all <;> omega))
 refine runs_cut 1 fun R14 hR14 => ?_
 try simp (maxSteps := 1000000) [caA0, caA1, List.take_succ_cons, List.take_zero, List.drop_succ_cons, List.drop_zero]
 repeat' (first | apply And.intro | intro _)
 any_goals (first | (refine Or.inl (hR14 _ ?_); clear hR14) | omega | (simp_all <;> omega))
 refine runs_cut 1 fun R15 hR15 => ?_
 try simp (maxSteps := 1000000) [caA0, caA1, List.take_succ_cons, List.take_zero, List.drop_succ_cons, List.drop_zero]
 refine .inl ⟨_, (by have h := put20_ok [] 0 [[⟨13, 2⟩]] [[5, 4]] (by simp) (by simp) (by simp) (by simp) (by simp); rw [caC1] at h; exact h), ?_⟩
 try simp (maxSteps := 1000000) [caA0, caA1]
 repeat' (first | apply And.intro | intro _)
 any_goals (first | (refine hR15 _ ?_; clear hR15) | omega | (simp_all <;> omega))
 try simp (maxSteps := 1000000) [caA0, caA1, List.take_succ_cons, List.take_zero, List.drop_succ_cons, List.drop_zero]
 repeat' (first | apply And.intro | intro _)
 any_goals (first | (refine hK9 _ ?_; clear hK9) | omega | (simp_all <;> omega))
 refine swp_seq fun K16 hK16 => ?_
 refine swp_region ty_ok ?_
 refine runs_cut 8 fun R17 hR17 => ?_
 try simp (maxSteps := 1000000) [caA0, caA1, List.take_succ_cons, List.take_zero, List.drop_succ_cons, List.drop_zero]
 repeat' (first | apply And.intro | intro _)
 any_goals (first | (refine hR17 _ ?_; clear hR17) | omega | (simp_all <;> omega))
 try simp (maxSteps := 1000000) [caA0, caA1, List.take_succ_cons, List.take_zero, List.drop_succ_cons, List.drop_zero]
 repeat' (first | apply And.intro | intro _)
 any_goals (first | (refine hK16 _ ?_; clear hK16) | omega | (simp_all <;> omega))
 refine swp_ret ?_
 simp [fnPost, Try.results30, resP, tupOf]
 exact ⟨rfl, rfl⟩

set_option maxHeartbeats 8000000 in
theorem scaleBack_yes (ga : Int) (l : List (List Sc)) (st : List (List Int)) (be : List Int) (hbe : ∀ y ∈ be, 0 ≤ y ∧ y ≤ 255) (bs : List Int) (hp : ∀ y ∈ bs, 0 ≤ y ∧ y ≤ 255) (a : Int) (ha : -9223372036854775808 ≤ a ∧ a ≤ 9223372036854775807) (hc : chS ga l st = 0) : PCall Try.prog 10 [.int .i64 ga, .ro (.rows 1 (l.map fun w => [.ro (.rows 2 (w.map Sc.row))])), .ro (.rows 1 (st.map fun w => [.ro (.ints .i64 w)])), .ro (.ints .u8 be), .ro (.ints .u8 bs), .int .i64 a] (.bool true) := by
 refine pcall_body ty_ok Try.func10 rfl (by rfl) (by simp) ?_
 rw [Try.ntmps10]
 refine swp_seq fun K1 hK1 => ?_
 refine swp_region ty_ok ?_
 try simp (maxSteps := 1000000)
 repeat' (first | apply And.intro | intro _)
 any_goals (first | (refine hK1 _ ?_; clear hK1) | omega | (simp_all <;> omega))
 refine swp_seq fun K2 hK2 => ?_
 refine swp_region ty_ok ?_
 refine runs_cut 1 fun R3 hR3 => ?_
 try simp (maxSteps := 1000000) [List.take_succ_cons, List.take_zero, List.drop_succ_cons, List.drop_zero]
 refine .inl ⟨_, alive20, ?_⟩
 try simp (maxSteps := 1000000)
 repeat' (first | apply And.intro | intro _)
 any_goals (first | (refine hR3 _ ?_; clear hR3) | omega | (simp_all <;> omega))
 try simp (maxSteps := 1000000) [List.take_succ_cons, List.take_zero, List.drop_succ_cons, List.drop_zero]
 repeat' (first | apply And.intro | intro _)
 any_goals (first | (refine hK2 _ ?_; clear hK2) | omega | (simp_all <;> omega))
 refine swp_seq fun K4 hK4 => ?_
 refine swp_seq fun K5 hK5 => ?_
 refine swp_region ty_ok ?_
 refine runs_cut 1 fun R6 hR6 => ?_
 try simp (maxSteps := 1000000) [List.take_succ_cons, List.take_zero, List.drop_succ_cons, List.drop_zero]
 repeat' (first | apply And.intro | intro _)
 any_goals (first | (refine hR6 _ ?_; clear hR6) | omega | (simp_all <;> omega))
 refine runs_cut 1 fun R7 hR7 => ?_
 try simp (maxSteps := 1000000) [List.take_succ_cons, List.take_zero, List.drop_succ_cons, List.drop_zero]
 refine .inl ⟨_, great19_ok l, ?_⟩
 try simp (maxSteps := 1000000)
 repeat' (first | apply And.intro | intro _)
 any_goals (first | (refine hR7 _ ?_; clear hR7) | omega | (simp_all <;> omega))
 refine runs_cut 2 fun R8 hR8 => ?_
 try simp (maxSteps := 1000000) [List.take_succ_cons, List.take_zero, List.drop_succ_cons, List.drop_zero]
 repeat' (first | apply And.intro | intro _)
 any_goals (first | (refine hR8 _ ?_; clear hR8) | omega | (simp_all <;> omega))
 refine runs_cut 1 fun R9 hR9 => ?_
 try simp (maxSteps := 1000000) [List.take_succ_cons, List.take_zero, List.drop_succ_cons, List.drop_zero]
 first | refine .inl ⟨_, fun hb => .inl ⟨great20_ok st, rfl⟩, ?_⟩ | refine .inl ⟨_, .inl ⟨great20_ok st, rfl⟩, ?_⟩ | refine .inl ⟨_, fun hb => .inl (great20_ok st), ?_⟩ | refine .inl ⟨_, .inl (great20_ok st), ?_⟩ | refine .inl ⟨_, by (intros; exact Or.inl (great20_ok st)), ?_⟩ | refine .inl ⟨_, by (intros; exact Or.inl ⟨great20_ok st, rfl⟩), ?_⟩ | refine .inl ⟨_, fun hb => .inl ⟨_, great20_ok st, by (try simp); exact ⟨rfl, rfl⟩⟩, ?_⟩ | refine ⟨_, fun hb => .inl ⟨great20_ok st, rfl⟩, ?_⟩ | refine ⟨_, .inl ⟨great20_ok st, rfl⟩, ?_⟩ | refine ⟨_, fun hb => .inl (great20_ok st), ?_⟩ | refine ⟨_, .inl (great20_ok st), ?_⟩ | refine ⟨_, by (intros; exact Or.inl (great20_ok st)), ?_⟩ | refine ⟨_, by (intros; exact Or.inl ⟨great20_ok st, rfl⟩), ?_⟩ | refine ⟨_, fun hb => .inl ⟨_, great20_ok st, by (try simp); exact ⟨rfl, rfl⟩⟩, ?_⟩
 repeat' (first | apply And.intro | intro _)
 any_goals (first | (refine hR9 _ ?_; clear hR9) | omega | (simp_all <;> omega))
 refine runs_cut 7 fun R10 hR10 => ?_
 try simp (maxSteps := 1000000) [List.take_succ_cons, List.take_zero, List.drop_succ_cons, List.drop_zero]
 repeat' (first | apply And.intro | intro _)
 any_goals (first | (refine hR10 _ ?_; clear hR10) | omega | (simp_all <;> omega))
 try simp (maxSteps := 1000000) [List.take_succ_cons, List.take_zero, List.drop_succ_cons, List.drop_zero]
 repeat' (first | apply And.intro | intro _)
 any_goals (first | (refine hK5 _ ?_; clear hK5) | omega | (simp_all <;> omega))
 refine swp_if fun C11 hC11 => ?_
 try simp (maxSteps := 1000000)
 refine hC11 _ (fun hc11 => ?_) (fun hc11 => ?_)
 ·clear hC11
  try simp at hc11
  refine swp_seq fun K12 hK12 => ?_
  refine swp_region ty_ok ?_
  try simp (maxSteps := 1000000)
  repeat' (first | apply And.intro | intro _)
  any_goals (first | (refine hK12 _ ?_; clear hK12) | omega | (simp_all <;> omega))
  refine swp_ret ?_
  simp [fnPost, Try.results10, resP, tupOf]
 ·clear hC11
  try simp at hc11
  refine swp_skip ?_
  try simp only [thn, inBlk]
  refine hK4 _ ?_; clear hK4
  refine swp_seq fun K13 hK13 => ?_
  have hcc := hc11
  obtain ⟨hl1, hlw⟩ := grt_no (l := l) (by first | exact hcc.1.1.1 | simpa using hcc.1.1.1)
  obtain ⟨hs1, hsw⟩ := grtI_no (l := st) (by first | exact hcc.1.1.2 | simpa using hcc.1.1.2)
  have hA := put20_ok [] ga l st (by simp) (by omega) (fun w hw => by have := hlw w hw; omega) (by omega) (fun w hw => by have := hsw w hw; omega)
  have hK := check20_ok ga l st (by omega) (fun w hw => by have := hlw w hw; omega) (by omega) (fun w hw => by have := hsw w hw; omega)
  have hgA := get20_ok bs a ga l (by omega) hp ha (by omega) (fun w hw => by have := hlw w hw; omega)
  obtain ⟨hv1, hv2⟩ := sgR_bd hp a ga l
  have hno := sgR_no (b := bs) (at_ := a) (ga := ga) (l := l)
  have hyes := sgR_ok (b := bs) hp (at_ := a) (ga := ga) (l := l)
  generalize (sgR bs a ga l).1 = V at hgA hv1 hv2 hno hyes
  generalize (sgR bs a ga l).2.1 = P at hgA hno hyes
  generalize (sgR bs a ga l).2.2 = E at hgA hno hyes
  obtain ⟨c1, c2, c3⟩ := chS_ok hc
  obtain ⟨c4, c5⟩ := mayG_true c1
  have hal := gB_len (RW_40 c5) l.length c3
  have hbk := sgR_back (be := be) hc
  rw [if_pos hc, hc, List.nil_append] at hA
  rw [hc] at hK
  have hbits : ∀ y ∈ gB l st ga l.length ++ be, 0 ≤ y ∧ y ≤ 255 := fun y hy => by
   rcases List.mem_append.1 hy with h | h
   ·have := gB_bits l.length y h; omega
   ·exact hbe y h
  have hgC := get20_ok (gB l st ga l.length ++ be) 0 ga l (by rw [List.length_append]; omega) hbits (by omega) (by omega) (fun w hw => by have := hlw w hw; omega)
  rw [hbk] at hgC
  generalize gB l st ga l.length = C at hA hgC hal hbk hbits
  refine swp_region ty_ok ?_
  refine runs_cut 3 fun R14 hR14 => ?_
  try simp (maxSteps := 1000000) [List.take_succ_cons, List.take_zero, List.drop_succ_cons, List.drop_zero]
  repeat' (first | apply And.intro | intro _)
  any_goals (first | (refine hR14 _ ?_; clear hR14) | omega | (simp_all <;> omega))
  refine runs_cut 1 fun R15 hR15 => ?_
  try simp (maxSteps := 1000000) [List.take_succ_cons, List.take_zero, List.drop_succ_cons, List.drop_zero]
  refine .inl ⟨_, hA, ?_⟩
  try simp (maxSteps := 1000000)
  repeat' (first | apply And.intro | intro _)
  any_goals (first | (refine hR15 _ ?_; clear hR15) | omega | (simp_all <;> omega))
  try simp (maxSteps := 1000000) [List.take_succ_cons, List.take_zero, List.drop_succ_cons, List.drop_zero]
  repeat' (first | apply And.intro | intro _)
  any_goals (first | (refine hK13 _ ?_; clear hK13) | omega | (simp_all <;> omega))
  refine swp_seq fun K16 hK16 => ?_
  refine swp_seq fun K17 hK17 => ?_
  refine swp_region ty_ok ?_
  refine runs_cut 5 fun R18 hR18 => ?_
  try simp (maxSteps := 1000000) [List.take_succ_cons, List.take_zero, List.drop_succ_cons, List.drop_zero]
  repeat' (first | apply And.intro | intro _)
  any_goals (first | (refine hR18 _ ?_; clear hR18) | omega | (simp_all <;> omega))
  refine runs_cut 1 fun R19 hR19 => ?_
  try simp (maxSteps := 1000000) [List.take_succ_cons, List.take_zero, List.drop_succ_cons, List.drop_zero]
  refine .inl ⟨_, hK, ?_⟩
  try simp (maxSteps := 1000000)
  repeat' (first | apply And.intro | intro _)
  any_goals (first | (refine hR19 _ ?_; clear hR19) | omega | (simp_all <;> omega))
  try simp (maxSteps := 1000000) [List.take_succ_cons, List.take_zero, List.drop_succ_cons, List.drop_zero]
  repeat' (first | apply And.intro | intro _)
  any_goals (first | (refine hK17 _ ?_; clear hK17) | omega | (simp_all <;> omega))
  refine swp_if fun C20 hC20 => ?_
  try simp (maxSteps := 1000000)
  refine hC20 _ (fun hc20 => ?_) (fun hc20 => ?_)
  ·exfalso
   have h := hc20
   simp at h
  ·clear hC20
   try simp at hc20
   refine swp_skip ?_
   try simp only [thn, inBlk]
   refine hK16 _ ?_; clear hK16
   refine swp_seq fun K21 hK21 => ?_
   refine swp_seq fun K22 hK22 => ?_
   refine swp_region ty_ok ?_
   try simp (maxSteps := 1000000)
   repeat' (first | apply And.intro | intro _)
   any_goals (first | (refine hK22 _ ?_; clear hK22) | omega | (simp_all <;> omega))
   refine swp_if fun C23 hC23 => ?_
   try simp (maxSteps := 1000000)
   refine hC23 _ (fun hc23 => ?_) (fun hc23 => ?_)
   ·clear hC23
    try simp at hc23
    refine swp_seq fun K24 hK24 => ?_
    refine swp_region ty_ok ?_
    refine runs_cut 1 fun R25 hR25 => ?_
    try simp (maxSteps := 1000000) [List.take_succ_cons, List.take_zero, List.drop_succ_cons, List.drop_zero]
    repeat' (first | apply And.intro | intro _)
    any_goals (first | (refine Or.inr (hR25 _ ?_); clear hR25) | omega | (simp_all <;> omega))
    refine runs_cut 6 fun R26 hR26 => ?_
    try simp (maxSteps := 1000000) [List.take_succ_cons, List.take_zero, List.drop_succ_cons, List.drop_zero]
    repeat' (first | apply And.intro | intro _)
    any_goals (first | (refine hR26 _ ?_; clear hR26) | omega | (simp_all <;> omega))
    refine runs_cut 1 fun R27 hR27 => ?_
    try simp (maxSteps := 1000000) [List.take_succ_cons, List.take_zero, List.drop_succ_cons, List.drop_zero]
    refine .inl ⟨_, hgC, ?_⟩
    try simp (maxSteps := 1000000)
    repeat' (first | apply And.intro | intro _)
    any_goals (first | (refine hR27 _ ?_; clear hR27) | omega | (simp_all <;> omega))
    try simp (maxSteps := 1000000) [List.take_succ_cons, List.take_zero, List.drop_succ_cons, List.drop_zero]
    repeat' (first | apply And.intro | intro _)
    any_goals (first | (refine hK24 _ ?_; clear hK24) | omega | (simp_all <;> omega))
    refine swp_seq fun K28 hK28 => ?_
    refine swp_region ty_ok ?_
    refine runs_cut 5 fun R29 hR29 => ?_
    try simp (maxSteps := 1000000) [List.take_succ_cons, List.take_zero, List.drop_succ_cons, List.drop_zero]
    repeat' (first | apply And.intro | intro _)
    any_goals (first | (refine hR29 _ ?_; clear hR29) | omega | (simp_all <;> omega))
    refine runs_cut 1 fun R30 hR30 => ?_
    try simp (maxSteps := 1000000) [List.take_succ_cons, List.take_zero, List.drop_succ_cons, List.drop_zero]
    first | refine .inl ⟨_, fun hb => .inl ⟨rsameI_ok st st (by omega) (fun w hw => by have := hsw w hw; omega), rfl⟩, ?_⟩ | refine .inl ⟨_, .inl ⟨rsameI_ok st st (by omega) (fun w hw => by have := hsw w hw; omega), rfl⟩, ?_⟩ | refine .inl ⟨_, fun hb => .inl (rsameI_ok st st (by omega) (fun w hw => by have := hsw w hw; omega)), ?_⟩ | refine .inl ⟨_, .inl (rsameI_ok st st (by omega) (fun w hw => by have := hsw w hw; omega)), ?_⟩ | refine .inl ⟨_, by (intros; exact Or.inl (rsameI_ok st st (by omega) (fun w hw => by have := hsw w hw; omega))), ?_⟩ | refine .inl ⟨_, by (intros; exact Or.inl ⟨rsameI_ok st st (by omega) (fun w hw => by have := hsw w hw; omega), rfl⟩), ?_⟩ | refine .inl ⟨_, fun hb => .inl ⟨_, rsameI_ok st st (by omega) (fun w hw => by have := hsw w hw; omega), by (try simp); exact ⟨rfl, rfl⟩⟩, ?_⟩ | refine ⟨_, fun hb => .inl ⟨rsameI_ok st st (by omega) (fun w hw => by have := hsw w hw; omega), rfl⟩, ?_⟩ | refine ⟨_, .inl ⟨rsameI_ok st st (by omega) (fun w hw => by have := hsw w hw; omega), rfl⟩, ?_⟩ | refine ⟨_, fun hb => .inl (rsameI_ok st st (by omega) (fun w hw => by have := hsw w hw; omega)), ?_⟩ | refine ⟨_, .inl (rsameI_ok st st (by omega) (fun w hw => by have := hsw w hw; omega)), ?_⟩ | refine ⟨_, by (intros; exact Or.inl (rsameI_ok st st (by omega) (fun w hw => by have := hsw w hw; omega))), ?_⟩ | refine ⟨_, by (intros; exact Or.inl ⟨rsameI_ok st st (by omega) (fun w hw => by have := hsw w hw; omega), rfl⟩), ?_⟩ | refine ⟨_, fun hb => .inl ⟨_, rsameI_ok st st (by omega) (fun w hw => by have := hsw w hw; omega), by (try simp); exact ⟨rfl, rfl⟩⟩, ?_⟩
    repeat' (first | apply And.intro | intro _)
    any_goals (first | (refine hR30 _ ?_; clear hR30) | omega | (simp_all <;> omega))
    try simp (maxSteps := 1000000) [List.take_succ_cons, List.take_zero, List.drop_succ_cons, List.drop_zero]
    repeat' (first | apply And.intro | intro _)
    any_goals (first | (refine hK28 _ ?_; clear hK28) | omega | (simp_all <;> omega))
    refine swp_if fun C31 hC31 => ?_
    try simp (maxSteps := 1000000)
    refine hC31 _ (fun hc31 => ?_) (fun hc31 => ?_)
    ·exfalso
     have h := hc31
     simp at h
    ·clear hC31
     try simp at hc31
     refine swp_skip ?_
     try simp only [thn, inBlk]
     refine hK21 _ ?_; clear hK21
     refine swp_seq fun K32 hK32 => ?_
     refine swp_region ty_ok ?_
     refine runs_cut 4 fun R33 hR33 => ?_
     try simp (maxSteps := 1000000) [List.take_succ_cons, List.take_zero, List.drop_succ_cons, List.drop_zero]
     repeat' (first | apply And.intro | intro _)
     any_goals (first | (refine hR33 _ ?_; clear hR33) | omega | (simp_all <;> omega))
     refine runs_cut 1 fun R34 hR34 => ?_
     try simp (maxSteps := 1000000) [List.take_succ_cons, List.take_zero, List.drop_succ_cons, List.drop_zero]
     refine .inl ⟨_, hgA, ?_⟩
     try simp (maxSteps := 1000000)
     repeat' (first | apply And.intro | intro _)
     any_goals (first | (refine hR34 _ ?_; clear hR34) | omega | (simp_all <;> omega))
     try simp (maxSteps := 1000000) [List.take_succ_cons, List.take_zero, List.drop_succ_cons, List.drop_zero]
     repeat' (first | apply And.intro | intro _)
     any_goals (first | (refine hK32 _ ?_; clear hK32) | omega | (simp_all <;> omega))
     refine swp_seq fun K35 hK35 => ?_
     refine swp_seq fun K36 hK36 => ?_
     refine swp_region ty_ok ?_
     try simp (maxSteps := 1000000)
     repeat' (first | apply And.intro | intro _)
     any_goals (first | (refine hK36 _ ?_; clear hK36) | omega | (simp_all <;> omega))
     refine swp_if fun C37 hC37 => ?_
     try simp (maxSteps := 1000000)
     refine hC37 _ (fun hc37 => ?_) (fun hc37 => ?_)
     ·clear hC37
      try simp at hc37
      refine swp_seq fun K38 hK38 => ?_
      obtain ⟨q1, q2⟩ := hno hc37
      subst q1 q2
      refine swp_region ty_ok ?_
      try simp (maxSteps := 1000000)
      repeat' (first | apply And.intro | intro _)
      any_goals (first | (refine hK38 _ ?_; clear hK38) | omega | (simp_all <;> omega))
      refine swp_ret ?_
      simp [fnPost, Try.results10, resP, tupOf]
     ·clear hC37
      try simp at hc37
      refine swp_skip ?_
      try simp only [thn, inBlk]
      refine hK35 _ ?_; clear hK35
      refine swp_seq fun K39 hK39 => ?_
      obtain ⟨q1, q2, q3⟩ := hyes hc37
      obtain ⟨D, hDe⟩ : ∃ D, gB l V ga l.length = D := ⟨_, rfl⟩
      have hD := put20_ok [] ga l V (by simp) (by omega) (fun w hw => by have := hlw w hw; omega) (by omega) (fun w hw => by have := hv2 w hw; omega)
      rw [if_pos q1, q1, List.nil_append, hDe] at hD
      rw [hDe] at q2
      obtain ⟨d1, d2, d3, d4⟩ := q2
      obtain ⟨n, rfl⟩ := Int.eq_ofNat_of_zero_le d1
      subst d2
      rw [Int.toNat_natCast] at d4
      refine swp_region ty_ok ?_
      refine runs_cut 3 fun R40 hR40 => ?_
      try simp (maxSteps := 1000000) [List.take_succ_cons, List.take_zero, List.drop_succ_cons, List.drop_zero]
      repeat' (first | apply And.intro | intro _)
      any_goals (first | (refine hR40 _ ?_; clear hR40) | omega | (simp_all <;> omega))
      refine runs_cut 1 fun R41 hR41 => ?_
      try simp (maxSteps := 1000000) [List.take_succ_cons, List.take_zero, List.drop_succ_cons, List.drop_zero]
      refine .inl ⟨_, hD, ?_⟩
      try simp (maxSteps := 1000000)
      repeat' (first | apply And.intro | intro _)
      any_goals (first | (refine hR41 _ ?_; clear hR41) | omega | (simp_all <;> omega))
      try simp (maxSteps := 1000000) [List.take_succ_cons, List.take_zero, List.drop_succ_cons, List.drop_zero]
      repeat' (first | apply And.intro | intro _)
      any_goals (first | (refine hK39 _ ?_; clear hK39) | omega | (simp_all <;> omega))
      refine swp_seq fun K42 hK42 => ?_
      refine swp_draw ty_ok mixed (ms := [0, 1, 3, 7, 15, 7, 7, 7, 231, 487, 1023, 2047, 4095]) (by kernel_rfl) ?_
      refine runD_cut 6 fun R43 hR43 => ?_
      try simp (maxSteps := 1000000) [Cells.sub, d4, List.take_succ_cons, List.take_zero, List.drop_succ_cons, List.drop_zero]
      repeat' (first | apply And.intro | intro _)
      any_goals (first | (refine hR43 _ _ _ _ ?_; clear hR43) | omega | (simp_all <;> omega))
      try simp (maxSteps := 1000000) [Cells.sub, d4, List.take_succ_cons, List.take_zero, List.drop_succ_cons, List.drop_zero]
      repeat' (first | apply And.intro | intro _)
      any_goals (first | kernel_rfl | (refine hK42 _ ?_; clear hK42) | omega | (simp_all <;> omega))
      refine swp_ret ?_
      simp [fnPost, Try.results10, resP, tupOf]
      rw [show ((n : Int) + (D.length : Int)).toNat - n = D.length by omega, d4]
   ·exact absurd hc23 (by simp)

set_option maxHeartbeats 8000000 in
theorem scaleBack_no (ga : Int) (l : List (List Sc)) (st : List (List Int)) (be : List Int) (hbe : ∀ y ∈ be, 0 ≤ y ∧ y ≤ 255) (bs : List Int) (hp : ∀ y ∈ bs, 0 ≤ y ∧ y ≤ 255) (a : Int) (ha : -9223372036854775808 ≤ a ∧ a ≤ 9223372036854775807) (hc : ¬ chS ga l st = 0) : PCall Try.prog 10 [.int .i64 ga, .ro (.rows 1 (l.map fun w => [.ro (.rows 2 (w.map Sc.row))])), .ro (.rows 1 (st.map fun w => [.ro (.ints .i64 w)])), .ro (.ints .u8 be), .ro (.ints .u8 bs), .int .i64 a] (.bool true) := by
 refine pcall_body ty_ok Try.func10 rfl (by rfl) (by simp) ?_
 rw [Try.ntmps10]
 refine swp_seq fun K1 hK1 => ?_
 refine swp_region ty_ok ?_
 try simp (maxSteps := 1000000)
 repeat' (first | apply And.intro | intro _)
 any_goals (first | (refine hK1 _ ?_; clear hK1) | omega | (simp_all <;> omega))
 refine swp_seq fun K2 hK2 => ?_
 refine swp_region ty_ok ?_
 refine runs_cut 1 fun R3 hR3 => ?_
 try simp (maxSteps := 1000000) [List.take_succ_cons, List.take_zero, List.drop_succ_cons, List.drop_zero]
 refine .inl ⟨_, alive20, ?_⟩
 try simp (maxSteps := 1000000)
 repeat' (first | apply And.intro | intro _)
 any_goals (first | (refine hR3 _ ?_; clear hR3) | omega | (simp_all <;> omega))
 try simp (maxSteps := 1000000) [List.take_succ_cons, List.take_zero, List.drop_succ_cons, List.drop_zero]
 repeat' (first | apply And.intro | intro _)
 any_goals (first | (refine hK2 _ ?_; clear hK2) | omega | (simp_all <;> omega))
 refine swp_seq fun K4 hK4 => ?_
 refine swp_seq fun K5 hK5 => ?_
 refine swp_region ty_ok ?_
 refine runs_cut 1 fun R6 hR6 => ?_
 try simp (maxSteps := 1000000) [List.take_succ_cons, List.take_zero, List.drop_succ_cons, List.drop_zero]
 repeat' (first | apply And.intro | intro _)
 any_goals (first | (refine hR6 _ ?_; clear hR6) | omega | (simp_all <;> omega))
 refine runs_cut 1 fun R7 hR7 => ?_
 try simp (maxSteps := 1000000) [List.take_succ_cons, List.take_zero, List.drop_succ_cons, List.drop_zero]
 refine .inl ⟨_, great19_ok l, ?_⟩
 try simp (maxSteps := 1000000)
 repeat' (first | apply And.intro | intro _)
 any_goals (first | (refine hR7 _ ?_; clear hR7) | omega | (simp_all <;> omega))
 refine runs_cut 2 fun R8 hR8 => ?_
 try simp (maxSteps := 1000000) [List.take_succ_cons, List.take_zero, List.drop_succ_cons, List.drop_zero]
 repeat' (first | apply And.intro | intro _)
 any_goals (first | (refine hR8 _ ?_; clear hR8) | omega | (simp_all <;> omega))
 refine runs_cut 1 fun R9 hR9 => ?_
 try simp (maxSteps := 1000000) [List.take_succ_cons, List.take_zero, List.drop_succ_cons, List.drop_zero]
 first | refine .inl ⟨_, fun hb => .inl ⟨great20_ok st, rfl⟩, ?_⟩ | refine .inl ⟨_, .inl ⟨great20_ok st, rfl⟩, ?_⟩ | refine .inl ⟨_, fun hb => .inl (great20_ok st), ?_⟩ | refine .inl ⟨_, .inl (great20_ok st), ?_⟩ | refine .inl ⟨_, by (intros; exact Or.inl (great20_ok st)), ?_⟩ | refine .inl ⟨_, by (intros; exact Or.inl ⟨great20_ok st, rfl⟩), ?_⟩ | refine .inl ⟨_, fun hb => .inl ⟨_, great20_ok st, by (try simp); exact ⟨rfl, rfl⟩⟩, ?_⟩ | refine ⟨_, fun hb => .inl ⟨great20_ok st, rfl⟩, ?_⟩ | refine ⟨_, .inl ⟨great20_ok st, rfl⟩, ?_⟩ | refine ⟨_, fun hb => .inl (great20_ok st), ?_⟩ | refine ⟨_, .inl (great20_ok st), ?_⟩ | refine ⟨_, by (intros; exact Or.inl (great20_ok st)), ?_⟩ | refine ⟨_, by (intros; exact Or.inl ⟨great20_ok st, rfl⟩), ?_⟩ | refine ⟨_, fun hb => .inl ⟨_, great20_ok st, by (try simp); exact ⟨rfl, rfl⟩⟩, ?_⟩
 repeat' (first | apply And.intro | intro _)
 any_goals (first | (refine hR9 _ ?_; clear hR9) | omega | (simp_all <;> omega))
 refine runs_cut 7 fun R10 hR10 => ?_
 try simp (maxSteps := 1000000) [List.take_succ_cons, List.take_zero, List.drop_succ_cons, List.drop_zero]
 repeat' (first | apply And.intro | intro _)
 any_goals (first | (refine hR10 _ ?_; clear hR10) | omega | (simp_all <;> omega))
 try simp (maxSteps := 1000000) [List.take_succ_cons, List.take_zero, List.drop_succ_cons, List.drop_zero]
 repeat' (first | apply And.intro | intro _)
 any_goals (first | (refine hK5 _ ?_; clear hK5) | omega | (simp_all <;> omega))
 refine swp_if fun C11 hC11 => ?_
 try simp (maxSteps := 1000000)
 refine hC11 _ (fun hc11 => ?_) (fun hc11 => ?_)
 ·clear hC11
  try simp at hc11
  refine swp_seq fun K12 hK12 => ?_
  refine swp_region ty_ok ?_
  try simp (maxSteps := 1000000)
  repeat' (first | apply And.intro | intro _)
  any_goals (first | (refine hK12 _ ?_; clear hK12) | omega | (simp_all <;> omega))
  refine swp_ret ?_
  simp [fnPost, Try.results10, resP, tupOf]
 ·clear hC11
  try simp at hc11
  refine swp_skip ?_
  try simp only [thn, inBlk]
  refine hK4 _ ?_; clear hK4
  refine swp_seq fun K13 hK13 => ?_
  have hcc := hc11
  obtain ⟨hl1, hlw⟩ := grt_no (l := l) (by first | exact hcc.1.1.1 | simpa using hcc.1.1.1)
  obtain ⟨hs1, hsw⟩ := grtI_no (l := st) (by first | exact hcc.1.1.2 | simpa using hcc.1.1.2)
  have hA := put20_ok [] ga l st (by simp) (by omega) (fun w hw => by have := hlw w hw; omega) (by omega) (fun w hw => by have := hsw w hw; omega)
  have hK := check20_ok ga l st (by omega) (fun w hw => by have := hlw w hw; omega) (by omega) (fun w hw => by have := hsw w hw; omega)
  have hgA := get20_ok bs a ga l (by omega) hp ha (by omega) (fun w hw => by have := hlw w hw; omega)
  obtain ⟨hv1, hv2⟩ := sgR_bd hp a ga l
  have hno := sgR_no (b := bs) (at_ := a) (ga := ga) (l := l)
  have hyes := sgR_ok (b := bs) hp (at_ := a) (ga := ga) (l := l)
  generalize (sgR bs a ga l).1 = V at hgA hv1 hv2 hno hyes
  generalize (sgR bs a ga l).2.1 = P at hgA hno hyes
  generalize (sgR bs a ga l).2.2 = E at hgA hno hyes
  rw [if_neg hc] at hA
  refine swp_region ty_ok ?_
  refine runs_cut 3 fun R14 hR14 => ?_
  try simp (maxSteps := 1000000) [List.take_succ_cons, List.take_zero, List.drop_succ_cons, List.drop_zero]
  repeat' (first | apply And.intro | intro _)
  any_goals (first | (refine hR14 _ ?_; clear hR14) | omega | (simp_all <;> omega))
  refine runs_cut 1 fun R15 hR15 => ?_
  try simp (maxSteps := 1000000) [List.take_succ_cons, List.take_zero, List.drop_succ_cons, List.drop_zero]
  refine .inl ⟨_, hA, ?_⟩
  try simp (maxSteps := 1000000)
  repeat' (first | apply And.intro | intro _)
  any_goals (first | (refine hR15 _ ?_; clear hR15) | omega | (simp_all <;> omega))
  try simp (maxSteps := 1000000) [List.take_succ_cons, List.take_zero, List.drop_succ_cons, List.drop_zero]
  repeat' (first | apply And.intro | intro _)
  any_goals (first | (refine hK13 _ ?_; clear hK13) | omega | (simp_all <;> omega))
  refine swp_seq fun K16 hK16 => ?_
  refine swp_seq fun K17 hK17 => ?_
  refine swp_region ty_ok ?_
  refine runs_cut 5 fun R18 hR18 => ?_
  try simp (maxSteps := 1000000) [List.take_succ_cons, List.take_zero, List.drop_succ_cons, List.drop_zero]
  repeat' (first | apply And.intro | intro _)
  any_goals (first | (refine hR18 _ ?_; clear hR18) | omega | (simp_all <;> omega))
  refine runs_cut 1 fun R19 hR19 => ?_
  try simp (maxSteps := 1000000) [List.take_succ_cons, List.take_zero, List.drop_succ_cons, List.drop_zero]
  refine .inl ⟨_, hK, ?_⟩
  try simp (maxSteps := 1000000)
  repeat' (first | apply And.intro | intro _)
  any_goals (first | (refine hR19 _ ?_; clear hR19) | omega | (simp_all <;> omega))
  try simp (maxSteps := 1000000) [List.take_succ_cons, List.take_zero, List.drop_succ_cons, List.drop_zero]
  repeat' (first | apply And.intro | intro _)
  any_goals (first | (refine hK17 _ ?_; clear hK17) | omega | (simp_all <;> omega))
  refine swp_if fun C20 hC20 => ?_
  try simp (maxSteps := 1000000)
  refine hC20 _ (fun hc20 => ?_) (fun hc20 => ?_)
  ·exfalso
   have h := hc20
   simp at h
  ·clear hC20
   try simp at hc20
   refine swp_skip ?_
   try simp only [thn, inBlk]
   refine hK16 _ ?_; clear hK16
   refine swp_seq fun K21 hK21 => ?_
   refine swp_seq fun K22 hK22 => ?_
   refine swp_region ty_ok ?_
   try simp (maxSteps := 1000000)
   repeat' (first | apply And.intro | intro _)
   any_goals (first | (refine hK22 _ ?_; clear hK22) | omega | (simp_all <;> omega))
   refine swp_if fun C23 hC23 => ?_
   try simp (maxSteps := 1000000)
   refine hC23 _ (fun hc23 => ?_) (fun hc23 => ?_)
   ·exact absurd (by simpa using hc23) hc
   ·clear hC23
    try simp at hc23
    refine swp_skip ?_
    try simp only [thn, inBlk]
    refine hK21 _ ?_; clear hK21
    refine swp_seq fun K24 hK24 => ?_
    refine swp_region ty_ok ?_
    refine runs_cut 4 fun R25 hR25 => ?_
    try simp (maxSteps := 1000000) [List.take_succ_cons, List.take_zero, List.drop_succ_cons, List.drop_zero]
    repeat' (first | apply And.intro | intro _)
    any_goals (first | (refine hR25 _ ?_; clear hR25) | omega | (simp_all <;> omega))
    refine runs_cut 1 fun R26 hR26 => ?_
    try simp (maxSteps := 1000000) [List.take_succ_cons, List.take_zero, List.drop_succ_cons, List.drop_zero]
    refine .inl ⟨_, hgA, ?_⟩
    try simp (maxSteps := 1000000)
    repeat' (first | apply And.intro | intro _)
    any_goals (first | (refine hR26 _ ?_; clear hR26) | omega | (simp_all <;> omega))
    try simp (maxSteps := 1000000) [List.take_succ_cons, List.take_zero, List.drop_succ_cons, List.drop_zero]
    repeat' (first | apply And.intro | intro _)
    any_goals (first | (refine hK24 _ ?_; clear hK24) | omega | (simp_all <;> omega))
    refine swp_seq fun K27 hK27 => ?_
    refine swp_seq fun K28 hK28 => ?_
    refine swp_region ty_ok ?_
    try simp (maxSteps := 1000000)
    repeat' (first | apply And.intro | intro _)
    any_goals (first | (refine hK28 _ ?_; clear hK28) | omega | (simp_all <;> omega))
    refine swp_if fun C29 hC29 => ?_
    try simp (maxSteps := 1000000)
    refine hC29 _ (fun hc29 => ?_) (fun hc29 => ?_)
    ·clear hC29
     try simp at hc29
     refine swp_seq fun K30 hK30 => ?_
     obtain ⟨q1, q2⟩ := hno hc29
     subst q1 q2
     refine swp_region ty_ok ?_
     try simp (maxSteps := 1000000)
     repeat' (first | apply And.intro | intro _)
     any_goals (first | (refine hK30 _ ?_; clear hK30) | omega | (simp_all <;> omega))
     refine swp_ret ?_
     simp [fnPost, Try.results10, resP, tupOf]
    ·clear hC29
     try simp at hc29
     refine swp_skip ?_
     try simp only [thn, inBlk]
     refine hK27 _ ?_; clear hK27
     refine swp_seq fun K31 hK31 => ?_
     obtain ⟨q1, q2, q3⟩ := hyes hc29
     obtain ⟨D, hDe⟩ : ∃ D, gB l V ga l.length = D := ⟨_, rfl⟩
     have hD := put20_ok [] ga l V (by simp) (by omega) (fun w hw => by have := hlw w hw; omega) (by omega) (fun w hw => by have := hv2 w hw; omega)
     rw [if_pos q1, q1, List.nil_append, hDe] at hD
     rw [hDe] at q2
     obtain ⟨d1, d2, d3, d4⟩ := q2
     obtain ⟨n, rfl⟩ := Int.eq_ofNat_of_zero_le d1
     subst d2
     rw [Int.toNat_natCast] at d4
     refine swp_region ty_ok ?_
     refine runs_cut 3 fun R32 hR32 => ?_
     try simp (maxSteps := 1000000) [List.take_succ_cons, List.take_zero, List.drop_succ_cons, List.drop_zero]
     repeat' (first | apply And.intro | intro _)
     any_goals (first | (refine hR32 _ ?_; clear hR32) | omega | (simp_all <;> omega))
     refine runs_cut 1 fun R33 hR33 => ?_
     try simp (maxSteps := 1000000) [List.take_succ_cons, List.take_zero, List.drop_succ_cons, List.drop_zero]
     refine .inl ⟨_, hD, ?_⟩
     try simp (maxSteps := 1000000)
     repeat' (first | apply And.intro | intro _)
     any_goals (first | (refine hR33 _ ?_; clear hR33) | omega | (simp_all <;> omega))
     try simp (maxSteps := 1000000) [List.take_succ_cons, List.take_zero, List.drop_succ_cons, List.drop_zero]
     repeat' (first | apply And.intro | intro _)
     any_goals (first | (refine hK31 _ ?_; clear hK31) | omega | (simp_all <;> omega))
     refine swp_seq fun K34 hK34 => ?_
     refine swp_draw ty_ok mixed (ms := [0, 1, 3, 7, 15, 7, 7, 7, 231, 487, 1023, 2047, 4095]) (by kernel_rfl) ?_
     refine runD_cut 6 fun R35 hR35 => ?_
     try simp (maxSteps := 1000000) [Cells.sub, d4, List.take_succ_cons, List.take_zero, List.drop_succ_cons, List.drop_zero]
     repeat' (first | apply And.intro | intro _)
     any_goals (first | (refine hR35 _ _ _ _ ?_; clear hR35) | omega | (simp_all <;> omega))
     try simp (maxSteps := 1000000) [Cells.sub, d4, List.take_succ_cons, List.take_zero, List.drop_succ_cons, List.drop_zero]
     repeat' (first | apply And.intro | intro _)
     any_goals (first | kernel_rfl | (refine hK34 _ ?_; clear hK34) | omega | (simp_all <;> omega))
     refine swp_ret ?_
     simp [fnPost, Try.results10, resP, tupOf]
     rw [show ((n : Int) + (D.length : Int)).toNat - n = D.length by omega, d4]

end Go.Proofs.Ytgheplondkoedaa

