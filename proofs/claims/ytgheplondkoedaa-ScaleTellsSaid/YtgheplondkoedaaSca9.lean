import Derived.Test.YtgheplondkoedaaWf
import Derived.Test.YtgheplondkoedaaTyh
import Derived.Test.YtgheplondkoedaaHbits
import Derived.Test.YtgheplondkoedaaHbits2
import Derived.Test.YtgheplondkoedaaHsrt
import Derived.Test.YtgheplondkoedaaHbk
import Derived.Test.YtgheplondkoedaaHst
import Derived.Test.YtgheplondkoedaaHbk5
import Derived.Test.YtgheplondkoedaaHbk9
import Derived.Test.YtgheplondkoedaaSca
import Derived.Test.YtgheplondkoedaaSca2
import Derived.Test.YtgheplondkoedaaSca3
import Derived.Test.YtgheplondkoedaaSca4
import Derived.Test.YtgheplondkoedaaSca5
import Derived.Test.YtgheplondkoedaaSca6
import Derived.Test.YtgheplondkoedaaSca7
import Derived.Test.YtgheplondkoedaaSca8
namespace Go.Proofs.Ytgheplondkoedaa
set_option linter.unusedVariables false
set_option linter.unusedSimpArgs false
set_option maxRecDepth 10000
open Go Go.Pv

open Go.RowKit
theorem sgR_bd {b : List Int} (hb : ∀ y ∈ b, 0 ≤ y ∧ y ≤ 255) (a ga : Int) (l : List (List Sc)) : (sgR b a ga l).1.length ≤ 8 ∧ ∀ w ∈ (sgR b a ga l).1, w.length ≤ 40 := by
 by_cases h : (sgR b a ga l).2.2 = 0
 ·obtain ⟨h1, h2, h3⟩ := sgR_ok hb h
  obtain ⟨c1, c2, c3⟩ := chS_ok h1
  obtain ⟨d1, d2⟩ := mayG_true c1
  refine ⟨by omega, fun w hw => ?_⟩
  obtain ⟨k, hk, rfl⟩ := List.getElem_of_mem hw
  have he := (oG_at c3 (k := k) (by omega)).1
  rw [List.getElem?_eq_getElem hk] at he
  have := RW_40 d2 k
  simp only [Option.getD_some] at he
  omega
 ·rw [(sgR_no h).1]
  simp
attribute [local simp] runs gd step1 need evu un opnds opv ev cst cst1 cstL getT getH putT onL nxt argT cellsOf PV.one thn inBlk jmp fldP ldP ldC live Cells.len Cells.get Cells.w sug ldv bin eqF eq1 ops2 sh2 binv Tk.agg stC apC rdS apS cpC cpS mvL zp argsP idx fillP toInts chunks mkC ixS ixA oidx slP sl0 slA optL List.append mxF bltn frzA frz frzL frz1 pur1 Cells.pur PV.scal scal1 runD rdO PV.ids id1 zids ety Eff.on cnd minb and1b ifmax ifmin mxv sugI strv w0 w1 w2 wm1
set_option maxHeartbeats 8000000 in
theorem scaleTells_ok (bs : List Int) (hp : ∀ y ∈ bs, 0 ≤ y ∧ y ≤ 255) (a : Int) (ha : -9223372036854775808 ≤ a ∧ a ≤ 9223372036854775807) (ga : Int) (l : List (List Sc)) (st : List (List Int))  : PCall Try.prog 9 [.ro (.ints .u8 bs), .int .i64 a, .int .i64 ga, .ro (.rows 1 (l.map fun w => [.ro (.rows 2 (w.map Sc.row))])), .ro (.rows 1 (st.map fun w => [.ro (.ints .i64 w)]))] (.bool true) := by
 refine pcall_body ty_ok Try.func9 rfl (by rfl) (by simp) ?_
 rw [Try.ntmps9]
 refine swp_seq fun K1 hK1 => ?_
 refine swp_region ty_ok ?_
 try simp (maxSteps := 1000000)
 repeat' (first | apply And.intro | intro _)
 any_goals (first | (refine hK1 _ ?_; clear hK1) | omega | (simp_all <;> omega))
 refine swp_seq fun K2 hK2 => ?_
 refine swp_seq fun K3 hK3 => ?_
 refine swp_region ty_ok ?_
 refine runs_cut 5 fun R4 hR4 => ?_
 try simp (maxSteps := 1000000) [List.take_succ_cons, List.take_zero, List.drop_succ_cons, List.drop_zero]
 repeat' (first | apply And.intro | intro _)
 any_goals (first | (refine hR4 _ ?_; clear hR4) | omega | (simp_all <;> omega))
 refine runs_cut 1 fun R5 hR5 => ?_
 try simp (maxSteps := 1000000) [List.take_succ_cons, List.take_zero, List.drop_succ_cons, List.drop_zero]
 first | refine .inl ⟨_, fun hb => .inl ⟨great19_ok l, rfl⟩, ?_⟩ | refine .inl ⟨_, .inl ⟨great19_ok l, rfl⟩, ?_⟩ | refine .inl ⟨_, fun hb => .inl (great19_ok l), ?_⟩ | refine .inl ⟨_, .inl (great19_ok l), ?_⟩ | refine .inl ⟨_, by (intros; exact Or.inl (great19_ok l)), ?_⟩ | refine .inl ⟨_, by (intros; exact Or.inl ⟨great19_ok l, rfl⟩), ?_⟩ | refine .inl ⟨_, fun hb => .inl ⟨_, great19_ok l, by (try simp); exact ⟨rfl, rfl⟩⟩, ?_⟩ | refine ⟨_, fun hb => .inl ⟨great19_ok l, rfl⟩, ?_⟩ | refine ⟨_, .inl ⟨great19_ok l, rfl⟩, ?_⟩ | refine ⟨_, fun hb => .inl (great19_ok l), ?_⟩ | refine ⟨_, .inl (great19_ok l), ?_⟩ | refine ⟨_, by (intros; exact Or.inl (great19_ok l)), ?_⟩ | refine ⟨_, by (intros; exact Or.inl ⟨great19_ok l, rfl⟩), ?_⟩ | refine ⟨_, fun hb => .inl ⟨_, great19_ok l, by (try simp); exact ⟨rfl, rfl⟩⟩, ?_⟩
 repeat' (first | apply And.intro | intro _)
 any_goals (first | (refine hR5 _ ?_; clear hR5) | omega | (simp_all <;> omega))
 refine runs_cut 3 fun R6 hR6 => ?_
 try simp (maxSteps := 1000000) [List.take_succ_cons, List.take_zero, List.drop_succ_cons, List.drop_zero]
 repeat' (first | apply And.intro | intro _)
 any_goals (first | (refine hR6 _ ?_; clear hR6) | omega | (simp_all <;> omega))
 refine runs_cut 1 fun R7 hR7 => ?_
 try simp (maxSteps := 1000000) [List.take_succ_cons, List.take_zero, List.drop_succ_cons, List.drop_zero]
 first | refine .inl ⟨_, fun hb => .inl ⟨great20_ok st, rfl⟩, ?_⟩ | refine .inl ⟨_, .inl ⟨great20_ok st, rfl⟩, ?_⟩ | refine .inl ⟨_, fun hb => .inl (great20_ok st), ?_⟩ | refine .inl ⟨_, .inl (great20_ok st), ?_⟩ | refine .inl ⟨_, by (intros; exact Or.inl (great20_ok st)), ?_⟩ | refine .inl ⟨_, by (intros; exact Or.inl ⟨great20_ok st, rfl⟩), ?_⟩ | refine .inl ⟨_, fun hb => .inl ⟨_, great20_ok st, by (try simp); exact ⟨rfl, rfl⟩⟩, ?_⟩ | refine ⟨_, fun hb => .inl ⟨great20_ok st, rfl⟩, ?_⟩ | refine ⟨_, .inl ⟨great20_ok st, rfl⟩, ?_⟩ | refine ⟨_, fun hb => .inl (great20_ok st), ?_⟩ | refine ⟨_, .inl (great20_ok st), ?_⟩ | refine ⟨_, by (intros; exact Or.inl (great20_ok st)), ?_⟩ | refine ⟨_, by (intros; exact Or.inl ⟨great20_ok st, rfl⟩), ?_⟩ | refine ⟨_, fun hb => .inl ⟨_, great20_ok st, by (try simp); exact ⟨rfl, rfl⟩⟩, ?_⟩
 repeat' (first | apply And.intro | intro _)
 any_goals (first | (refine hR7 _ ?_; clear hR7) | omega | (simp_all <;> omega))
 try simp (maxSteps := 1000000) [List.take_succ_cons, List.take_zero, List.drop_succ_cons, List.drop_zero]
 repeat' (first | apply And.intro | intro _)
 any_goals (first | (refine hK3 _ ?_; clear hK3) | omega | (simp_all <;> omega))
 refine swp_if fun C8 hC8 => ?_
 try simp (maxSteps := 1000000)
 refine hC8 _ (fun hc8 => ?_) (fun hc8 => ?_)
 ·clear hC8
  try simp at hc8
  refine swp_seq fun K9 hK9 => ?_
  refine swp_region ty_ok ?_
  try simp (maxSteps := 1000000)
  repeat' (first | apply And.intro | intro _)
  any_goals (first | (refine hK9 _ ?_; clear hK9) | omega | (simp_all <;> omega))
  refine swp_ret ?_
  simp [fnPost, Try.results9, resP, tupOf]
 ·clear hC8
  try simp at hc8
  refine swp_skip ?_
  try simp only [thn, inBlk]
  refine hK2 _ ?_; clear hK2
  refine swp_seq fun K10 hK10 => ?_
  have hcc := hc8
  obtain ⟨hl1, hlw⟩ := grt_no (l := l) (by first | exact hcc.1.2 | simpa using hcc.1.2)
  obtain ⟨hs1, hsw⟩ := grtI_no (l := st) (by first | exact hcc.2 | simpa using hcc.2)
  have hA := put20_ok bs ga l st (by omega) (by omega) (fun w hw => by have := hlw w hw; omega) (by omega) (fun w hw => by have := hsw w hw; omega)
  have hB := rput20_ok bs ga l st (by omega) (by omega) (fun w hw => by have := hlw w hw; omega) (by omega)
  generalize (if chS ga l st = 0 then bs ++ gB l st ga l.length else []) = Z at hA hB
  have hgA := get20_ok bs a ga l (by omega) hp ha (by omega) (fun w hw => by have := hlw w hw; omega)
  have hgB := rget20_ok bs a ga l (by omega) hp ha (by omega) (fun w hw => by have := hlw w hw; omega)
  obtain ⟨hv1, hv2⟩ := sgR_bd hp a ga l
  generalize (sgR bs a ga l).1 = V at hgA hgB hv1 hv2
  generalize (sgR bs a ga l).2.1 = P at hgA hgB
  generalize (sgR bs a ga l).2.2 = E at hgA hgB
  refine swp_region ty_ok ?_
  try simp (maxSteps := 1000000)
  repeat' (first | apply And.intro | intro _)
  any_goals (first | (refine hK10 _ ?_; clear hK10) | omega | (simp_all <;> omega))
  refine swp_seq fun K11 hK11 => ?_
  refine swp_region ty_ok ?_
  refine runs_cut 4 fun R12 hR12 => ?_
  try simp (maxSteps := 1000000) [List.take_succ_cons, List.take_zero, List.drop_succ_cons, List.drop_zero]
  repeat' (first | apply And.intro | intro _)
  any_goals (first | (refine hR12 _ ?_; clear hR12) | omega | (simp_all <;> omega))
  refine runs_cut 1 fun R13 hR13 => ?_
  try simp (maxSteps := 1000000) [List.take_succ_cons, List.take_zero, List.drop_succ_cons, List.drop_zero]
  refine .inl ⟨_, hA, ?_⟩
  try simp (maxSteps := 1000000)
  repeat' (first | apply And.intro | intro _)
  any_goals (first | (refine hR13 _ ?_; clear hR13) | omega | (simp_all <;> omega))
  try simp (maxSteps := 1000000) [List.take_succ_cons, List.take_zero, List.drop_succ_cons, List.drop_zero]
  repeat' (first | apply And.intro | intro _)
  any_goals (first | (refine hK11 _ ?_; clear hK11) | omega | (simp_all <;> omega))
  refine swp_seq fun K14 hK14 => ?_
  refine swp_region ty_ok ?_
  refine runs_cut 4 fun R15 hR15 => ?_
  try simp (maxSteps := 1000000) [List.take_succ_cons, List.take_zero, List.drop_succ_cons, List.drop_zero]
  repeat' (first | apply And.intro | intro _)
  any_goals (first | (refine hR15 _ ?_; clear hR15) | omega | (simp_all <;> omega))
  refine runs_cut 1 fun R16 hR16 => ?_
  try simp (maxSteps := 1000000) [List.take_succ_cons, List.take_zero, List.drop_succ_cons, List.drop_zero]
  refine .inl ⟨_, hB, ?_⟩
  try simp (maxSteps := 1000000)
  repeat' (first | apply And.intro | intro _)
  any_goals (first | (refine hR16 _ ?_; clear hR16) | omega | (simp_all <;> omega))
  try simp (maxSteps := 1000000) [List.take_succ_cons, List.take_zero, List.drop_succ_cons, List.drop_zero]
  repeat' (first | apply And.intro | intro _)
  any_goals (first | (refine hK14 _ ?_; clear hK14) | omega | (simp_all <;> omega))
  refine swp_seq fun K17 hK17 => ?_
  refine swp_region ty_ok ?_
  refine runs_cut 4 fun R18 hR18 => ?_
  try simp (maxSteps := 1000000) [List.take_succ_cons, List.take_zero, List.drop_succ_cons, List.drop_zero]
  repeat' (first | apply And.intro | intro _)
  any_goals (first | (refine hR18 _ ?_; clear hR18) | omega | (simp_all <;> omega))
  refine runs_cut 1 fun R19 hR19 => ?_
  try simp (maxSteps := 1000000) [List.take_succ_cons, List.take_zero, List.drop_succ_cons, List.drop_zero]
  refine .inl ⟨_, hgA, ?_⟩
  try simp (maxSteps := 1000000)
  repeat' (first | apply And.intro | intro _)
  any_goals (first | (refine hR19 _ ?_; clear hR19) | omega | (simp_all <;> omega))
  try simp (maxSteps := 1000000) [List.take_succ_cons, List.take_zero, List.drop_succ_cons, List.drop_zero]
  repeat' (first | apply And.intro | intro _)
  any_goals (first | (refine hK17 _ ?_; clear hK17) | omega | (simp_all <;> omega))
  refine swp_seq fun K20 hK20 => ?_
  refine swp_region ty_ok ?_
  refine runs_cut 4 fun R21 hR21 => ?_
  try simp (maxSteps := 1000000) [List.take_succ_cons, List.take_zero, List.drop_succ_cons, List.drop_zero]
  repeat' (first | apply And.intro | intro _)
  any_goals (first | (refine hR21 _ ?_; clear hR21) | omega | (simp_all <;> omega))
  refine runs_cut 1 fun R22 hR22 => ?_
  try simp (maxSteps := 1000000) [List.take_succ_cons, List.take_zero, List.drop_succ_cons, List.drop_zero]
  refine .inl ⟨_, hgB, ?_⟩
  try simp (maxSteps := 1000000)
  repeat' (first | apply And.intro | intro _)
  any_goals (first | (refine hR22 _ ?_; clear hR22) | omega | (simp_all <;> omega))
  try simp (maxSteps := 1000000) [List.take_succ_cons, List.take_zero, List.drop_succ_cons, List.drop_zero]
  repeat' (first | apply And.intro | intro _)
  any_goals (first | (refine hK20 _ ?_; clear hK20) | omega | (simp_all <;> omega))
  refine swp_seq fun K23 hK23 => ?_
  refine swp_region ty_ok ?_
  refine runs_cut 3 fun R24 hR24 => ?_
  try simp (maxSteps := 1000000) [List.take_succ_cons, List.take_zero, List.drop_succ_cons, List.drop_zero]
  repeat' (first | apply And.intro | intro _)
  any_goals (first | (refine hR24 _ ?_; clear hR24) | omega | (simp_all <;> omega))
  refine runs_cut 1 fun R25 hR25 => ?_
  try simp (maxSteps := 1000000) [List.take_succ_cons, List.take_zero, List.drop_succ_cons, List.drop_zero]
  refine .inl ⟨_, check20_ok ga l st (by omega) (fun w hw => by have := hlw w hw; omega) (by omega) (fun w hw => by have := hsw w hw; omega), ?_⟩
  try simp (maxSteps := 1000000)
  repeat' (first | apply And.intro | intro _)
  any_goals (first | (refine hR25 _ ?_; clear hR25) | omega | (simp_all <;> omega))
  refine runs_cut 3 fun R26 hR26 => ?_
  try simp (maxSteps := 1000000) [List.take_succ_cons, List.take_zero, List.drop_succ_cons, List.drop_zero]
  repeat' (first | apply And.intro | intro _)
  any_goals (first | (refine hR26 _ ?_; clear hR26) | omega | (simp_all <;> omega))
  refine runs_cut 1 fun R27 hR27 => ?_
  try simp (maxSteps := 1000000) [List.take_succ_cons, List.take_zero, List.drop_succ_cons, List.drop_zero]
  refine .inl ⟨_, rcheck20_ok ga l st (by omega) (fun w hw => by have := hlw w hw; omega) (by omega), ?_⟩
  try simp (maxSteps := 1000000)
  repeat' (first | apply And.intro | intro _)
  any_goals (first | (refine hR27 _ ?_; clear hR27) | omega | (simp_all <;> omega))
  refine runs_cut 8 fun R28 hR28 => ?_
  try simp (maxSteps := 1000000) [List.take_succ_cons, List.take_zero, List.drop_succ_cons, List.drop_zero]
  repeat' (first | apply And.intro | intro _)
  any_goals (first | (refine hR28 _ ?_; clear hR28) | omega | (simp_all <;> omega))
  refine runs_cut 8 fun R29 hR29 => ?_
  try simp (maxSteps := 1000000) [List.take_succ_cons, List.take_zero, List.drop_succ_cons, List.drop_zero]
  repeat' (first | apply And.intro | intro _)
  any_goals (first | (refine hR29 _ ?_; clear hR29) | omega | (simp_all <;> omega))
  refine runs_cut 1 fun R30 hR30 => ?_
  try simp (maxSteps := 1000000) [List.take_succ_cons, List.take_zero, List.drop_succ_cons, List.drop_zero]
  first | refine .inl ⟨_, fun hb => .inl ⟨rsameI_ok V V (by omega) (fun w hw => by have := hv2 w hw; omega), rfl⟩, ?_⟩ | refine .inl ⟨_, .inl ⟨rsameI_ok V V (by omega) (fun w hw => by have := hv2 w hw; omega), rfl⟩, ?_⟩ | refine .inl ⟨_, fun hb => .inl (rsameI_ok V V (by omega) (fun w hw => by have := hv2 w hw; omega)), ?_⟩ | refine .inl ⟨_, .inl (rsameI_ok V V (by omega) (fun w hw => by have := hv2 w hw; omega)), ?_⟩ | refine .inl ⟨_, by (intros; exact Or.inl (rsameI_ok V V (by omega) (fun w hw => by have := hv2 w hw; omega))), ?_⟩ | refine .inl ⟨_, by (intros; exact Or.inl ⟨rsameI_ok V V (by omega) (fun w hw => by have := hv2 w hw; omega), rfl⟩), ?_⟩ | refine .inl ⟨_, fun hb => .inl ⟨_, rsameI_ok V V (by omega) (fun w hw => by have := hv2 w hw; omega), by (try simp); exact ⟨rfl, rfl⟩⟩, ?_⟩ | refine ⟨_, fun hb => .inl ⟨rsameI_ok V V (by omega) (fun w hw => by have := hv2 w hw; omega), rfl⟩, ?_⟩ | refine ⟨_, .inl ⟨rsameI_ok V V (by omega) (fun w hw => by have := hv2 w hw; omega), rfl⟩, ?_⟩ | refine ⟨_, fun hb => .inl (rsameI_ok V V (by omega) (fun w hw => by have := hv2 w hw; omega)), ?_⟩ | refine ⟨_, .inl (rsameI_ok V V (by omega) (fun w hw => by have := hv2 w hw; omega)), ?_⟩ | refine ⟨_, by (intros; exact Or.inl (rsameI_ok V V (by omega) (fun w hw => by have := hv2 w hw; omega))), ?_⟩ | refine ⟨_, by (intros; exact Or.inl ⟨rsameI_ok V V (by omega) (fun w hw => by have := hv2 w hw; omega), rfl⟩), ?_⟩ | refine ⟨_, fun hb => .inl ⟨_, rsameI_ok V V (by omega) (fun w hw => by have := hv2 w hw; omega), by (try simp); exact ⟨rfl, rfl⟩⟩, ?_⟩
  repeat' (first | apply And.intro | intro _)
  any_goals (first | (refine hR30 _ ?_; clear hR30) | omega | (simp_all <;> omega))
  refine runs_cut 9 fun R31 hR31 => ?_
  try simp (maxSteps := 1000000) [List.take_succ_cons, List.take_zero, List.drop_succ_cons, List.drop_zero]
  repeat' (first | apply And.intro | intro _)
  any_goals (first | (refine hR31 _ ?_; clear hR31) | omega | (simp_all <;> omega))
  try simp (maxSteps := 1000000) [List.take_succ_cons, List.take_zero, List.drop_succ_cons, List.drop_zero]
  repeat' (first | apply And.intro | intro _)
  any_goals (first | (refine hK23 _ ?_; clear hK23) | omega | (simp_all <;> omega))
  refine swp_ret ?_
  simp [fnPost, Try.results9, resP, tupOf]

end Go.Proofs.Ytgheplondkoedaa

