import Derived.Test.YtgheplondkoedaaWf
import Derived.Test.YtgheplondkoedaaTyh
import Derived.Test.YtgheplondkoedaaHbits
import Derived.Test.YtgheplondkoedaaHbits2
import Derived.Test.YtgheplondkoedaaHsrt
import Derived.Test.YtgheplondkoedaaHbk
import Derived.Test.YtgheplondkoedaaHst
import Derived.Test.YtgheplondkoedaaHbk5
import Derived.Test.YtgheplondkoedaaHbk9
import Derived.Test.YtgheplondkoedaaSca
import Derived.Test.YtgheplondkoedaaSca2
import Derived.Test.YtgheplondkoedaaSca3
import Derived.Test.YtgheplondkoedaaSca4
import Derived.Test.YtgheplondkoedaaSca5
import Derived.Test.YtgheplondkoedaaSca6
import Derived.Test.YtgheplondkoedaaSca7
import Derived.Test.YtgheplondkoedaaSca8
namespace Go.Proofs.Ytgheplondkoedaa
set_option linter.unusedVariables false
set_option linter.unusedSimpArgs false
set_option maxRecDepth 10000
open Go Go.Pv

open Go.RowKit
theorem caC0 : chS 100 [[⟨1, 2⟩]] [[100, 101]] = 0 := by decide +kernel
theorem caC1 : chS 0 [[⟨13, 2⟩]] [[5, 4]] = 0 := by decide +kernel
theorem caA0 : gB [[⟨1, 2⟩]] [[100, 101]] 100 1 = [1, 0, 1, 1] := by decide +kernel
theorem caA1 : gB [[⟨13, 2⟩]] [[5, 4]] 0 1 = [0, 0, 0, 0, 0, 0, 1, 0, 1, 0, 1, 0] := by decide +kernel
attribute [local simp] runs gd step1 need evu un opnds opv ev cst cst1 cstL getT getH putT onL nxt argT cellsOf PV.one thn inBlk jmp fldP ldP ldC live Cells.len Cells.get Cells.w sug ldv bin eqF eq1 ops2 sh2 binv Tk.agg stC apC rdS apS cpC cpS mvL zp argsP idx fillP toInts chunks mkC ixS ixA oidx slP sl0 slA optL List.append mxF bltn frzA frz frzL frz1 pur1 Cells.pur PV.scal scal1 runD rdO PV.ids id1 zids ety Eff.on cnd minb and1b ifmax ifmin mxv sugI strv w0 w1 w2 wm1
theorem alive20  : PCall Try.prog 30 [] (.bool true) := by
 refine pcall_body ty_ok Try.func30 rfl (by rfl) (by simp) ?_
 rw [Try.ntmps30]
 refine swp_seq fun K1 hK1 => ?_
 refine swp_region ty_ok ?_
 try simp (maxSteps := 1000000) [caA0, caA1]
 repeat' (first | apply And.intro | intro _)
 any_goals (first | (refine hK1 _ ?_; clear hK1) | omega | (simp_all <;> omega))
 refine swp_seq fun K2 hK2 => ?_
 refine swp_region ty_ok ?_
 refine runs_cut 1 fun R3 hR3 => ?_
 try simp (maxSteps := 1000000) [caA0, caA1, List.take_succ_cons, List.take_zero, List.drop_succ_cons, List.drop_zero]
 repeat' (first | apply And.intro | intro _)
 any_goals (first | (refine hR3 _ ?_; clear hR3) | omega | (simp_all <;> omega))
 refine runs_cut 1 fun R4 hR4 => ?_
 try simp (maxSteps := 1000000) [caA0, caA1, List.take_succ_cons, List.take_zero, List.drop_succ_cons, List.drop_zero]
 repeat' (first | apply And.intro | intro _)
 any_goals (first | (refine Or.inl (hR4 _ ?_); clear hR4) | omega | (simp_all <;> omega))
 refine runs_cut 1 fun R5 hR5 => ?_
 try simp (maxSteps := 1000000) [caA0, caA1, List.take_succ_cons, List.take_zero, List.drop_succ_cons, List.drop_zero]
 repeat' (first | apply And.intro | intro _)
 any_goals (first | (refine Or.inl (hR5 _ ?_); clear hR5) | omega | (simp_all <;> omega))
 refine runs_cut 1 fun R6 hR6 => ?_
 try simp (maxSteps := 1000000) [caA0, caA1, List.take_succ_cons, List.take_zero, List.drop_succ_cons, List.drop_zero]
 repeat' (first | apply And.intro | intro _)
 any_goals (first | (refine Or.inl (hR6 _ ?_); clear hR6) | omega | (simp_all <;> omega))
 refine runs_cut 1 fun R7 hR7 => ?_
 try simp (maxSteps := 1000000) [caA0, caA1, List.take_succ_cons, List.take_zero, List.drop_succ_cons, List.drop_zero]
 repeat' (first | apply And.intro | intro _)
 any_goals (first | (refine Or.inl (hR7 _ ?_); clear hR7) | omega | (simp_all <;> omega))
 refine runs_cut 1 fun R8 hR8 => ?_
 try simp (maxSteps := 1000000) [caA0, caA1, List.take_succ_cons, List.take_zero, List.drop_succ_cons, List.drop_zero]
 refine .inl ⟨_, (by have h := put20_ok [] 100 [[⟨1, 2⟩]] [[100, 101]] (by simp) (by simp) (by simp) (by simp) (by simp); rw [caC0] at h; exact h), ?_⟩
 try simp (maxSteps := 1000000) [caA0, caA1]
 repeat' (first | apply And.intro | intro _)
 any_goals (first | (refine hR8 _ ?_; clear hR8) | omega | (simp_all <;> omega))
 try simp (maxSteps := 1000000) [caA0, caA1, List.take_succ_cons, List.take_zero, List.drop_succ_cons, List.drop_zero]
 repeat' (first | apply And.intro | intro _)
 any_goals (first | (refine hK2 _ ?_; clear hK2) | omega | (simp_all <;> omega))
 refine swp_seq fun K9 hK9 => ?_
 refine swp_region ty_ok ?_
 refine runs_cut 1 fun R10 hR10 => ?_
 try simp (maxSteps := 1000000) [caA0, caA1, List.take_succ_cons, List.take_zero, List.drop_succ_cons, List.drop_zero]
 repeat' (first | apply And.intro | intro _)
 any_goals (first | (refine hR10 _ ?_; clear hR10) | omega | (simp_all <;> omega))
 refine runs_cut 1 fun R11 hR11 => ?_
 try simp (maxSteps := 1000000) [caA0, caA1, List.take_succ_cons, List.take_zero, List.drop_succ_cons, List.drop_zero]
 repeat' (first | apply And.intro | intro _)
 any_goals (first | (refine Or.inl (hR11 _ ?_); clear hR11) | omega | (simp_all <;> omega))
 refine runs_cut 1 fun R12 hR12 => ?_
 try simp (maxSteps := 1000000) [caA0, caA1, List.take_succ_cons, List.take_zero, List.drop_succ_cons, List.drop_zero]
 repeat' (first | apply And.intro | intro _)
 any_goals (first | (refine Or.inl (hR12 _ ?_); clear hR12) | omega | (simp_all <;> omega))
 refine runs_cut 1 fun R13 hR13 => ?_
 try simp (maxSteps := 1000000) [caA0, caA1, List.take_succ_cons, List.take_zero, List.drop_succ_cons, List.drop_zero]
 repeat' (first | apply And.intro | intro _)
 any_goals (first | (refine Or.inl (hR13 _ ?_); clear hR13) | omega | (simp_all <;> omega))
 refine runs_cut 1 fun R14 hR14 => ?_
 try simp (maxSteps := 1000000) [caA0, caA1, List.take_succ_cons, List.take_zero, List.drop_succ_cons, List.drop_zero]
 repeat' (first | apply And.intro | intro _)
 any_goals (first | (refine Or.inl (hR14 _ ?_); clear hR14) | omega | (simp_all <;> omega))
 refine runs_cut 1 fun R15 hR15 => ?_
 try simp (maxSteps := 1000000) [caA0, caA1, List.take_succ_cons, List.take_zero, List.drop_succ_cons, List.drop_zero]
 refine .inl ⟨_, (by have h := put20_ok [] 0 [[⟨13, 2⟩]] [[5, 4]] (by simp) (by simp) (by simp) (by simp) (by simp); rw [caC1] at h; exact h), ?_⟩
 try simp (maxSteps := 1000000) [caA0, caA1]
 repeat' (first | apply And.intro | intro _)
 any_goals (first | (refine hR15 _ ?_; clear hR15) | omega | (simp_all <;> omega))
 try simp (maxSteps := 1000000) [caA0, caA1, List.take_succ_cons, List.take_zero, List.drop_succ_cons, List.drop_zero]
 repeat' (first | apply And.intro | intro _)
 any_goals (first | (refine hK9 _ ?_; clear hK9) | omega | (simp_all <;> omega))
 refine swp_seq fun K16 hK16 => ?_
 refine swp_region ty_ok ?_
 refine runs_cut 8 fun R17 hR17 => ?_
 try simp (maxSteps := 1000000) [caA0, caA1, List.take_succ_cons, List.take_zero, List.drop_succ_cons, List.drop_zero]
 repeat' (first | apply And.intro | intro _)
 any_goals (first | (refine hR17 _ ?_; clear hR17) | omega | (simp_all <;> omega))
 try simp (maxSteps := 1000000) [caA0, caA1, List.take_succ_cons, List.take_zero, List.drop_succ_cons, List.drop_zero]
 repeat' (first | apply And.intro | intro _)
 any_goals (first | (refine hK16 _ ?_; clear hK16) | omega | (simp_all <;> omega))
 refine swp_ret ?_
 simp [fnPost, Try.results30, resP, tupOf]
 exact ⟨rfl, rfl⟩

end Go.Proofs.Ytgheplondkoedaa

