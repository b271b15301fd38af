import Derived.Test.YtmkgfgdipkagbaaWf
import Derived.Test.YtmkgfgdipkagbaaTyl
import Derived.Test.YtmkgfgdipkagbaaLband
import Derived.Test.YtmkgfgdipkagbaaLinfo
namespace Go.Proofs.Ytmkgfgdipkagbaa
set_option linter.unusedVariables false
set_option linter.unusedSimpArgs false
set_option maxRecDepth 10000
open Go Go.Pv

attribute [local simp] runs gd step1 need evu un opnds opv ev cst cst1 cstL getT getH putT onL nxt argT cellsOf PV.one thn inBlk jmp fldP ldP ldC live Cells.len Cells.get Cells.w sug ldv bin eqF eq1 ops2 sh2 binv Tk.agg stC apC rdS apS cpC cpS mvL zp argsP idx fillP toInts chunks mkC ixS ixA oidx slP sl0 slA optL List.append mxF bltn frzA frz frzL frz1 pur1 Cells.pur PV.scal scal1 runD rdO PV.ids id1 zids ety Eff.on cnd minb and1b ifmax ifmin mxv sugI strv w0 w1 w2 wm1
theorem clone_h (n : Nat) (xs : List Int) (hx : xs.length ≤ 17592186043000) : HCall Try.prog 39 [.ro (.ints .i64 xs)] [] n (.sl n 0 xs.length xs.length) [(n, some ⟨.ints .i64 xs, false, 3⟩)] := by
 refine hcall_body ty_ok Try.func39 rfl (by rfl) (by simp) ?_
 rw [Try.ntmps39]
 refine swp_seq fun K1 hK1 => ?_
 refine swp_region ty_ok ?_
 try simp (maxSteps := 1000000)
 repeat' (first | apply And.intro | intro _)
 any_goals (first | (refine hK1 _ ?_; clear hK1) | omega | (simp_all <;> omega))
 refine swp_seq fun K2 hK2 => ?_
 refine swp_seq fun K3 hK3 => ?_
 refine swp_isnil ty_ok (t := 22) (e := 3) (d := 3) (b := 4) rfl rfl (by simp [ev, getT]; rfl) (by omega) (by omega) (fun v hv => ?_) ⟨rfl, rfl, rfl, rfl⟩ ⟨rfl, rfl, rfl⟩
 simp only [thn, inBlk]
 refine hK3 _ ?_; clear hK3
 refine swp_if fun C4 hC4 => ?_
 try simp (maxSteps := 1000000)
 refine hC4 _ (fun hc4 => ?_) (fun hc4 => ?_)
 ·clear hC4
  try simp at hc4
  refine swp_seq fun K5 hK5 => ?_
  refine swp_region ty_ok ?_
  try simp (maxSteps := 1000000)
  repeat' (first | apply And.intro | intro _)
  any_goals (first | (refine hK5 _ ?_; clear hK5) | omega | (simp_all <;> omega))
  refine swp_own 2 3 (by simp [getT]; rfl) rfl ?_
  refine swp_ret ?_
  simp [fnPostH, PV.inR, inR1, PV.inL, inL1, Blk.inL, Cells.inL, put_at, Try.results39, resP, tupOf]
  exact List.eq_nil_of_length_eq_zero (hv (by assumption))
 ·clear hC4
  try simp at hc4
  refine swp_skip ?_
  try simp only [thn, inBlk]
  refine hK2 _ ?_; clear hK2
  refine swp_seq fun K6 hK6 => ?_
  refine swp_region ty_ok ?_
  refine runs_cut 1 fun R7 hR7 => ?_
  try simp (maxSteps := 1000000) [List.take_succ_cons, List.take_zero, List.drop_succ_cons, List.drop_zero]
  repeat' (first | apply And.intro | intro _)
  any_goals (first | (refine Or.inr (hR7 _ ?_); clear hR7) | omega | (simp_all <;> omega))
  try simp (maxSteps := 1000000) [List.take_succ_cons, List.take_zero, List.drop_succ_cons, List.drop_zero]
  repeat' (first | apply And.intro | intro _)
  any_goals (first | (refine hK6 _ ?_; clear hK6) | omega | (simp_all <;> omega))
  refine swp_ret ?_
  simp [fnPostH, PV.inR, inR1, PV.inL, inL1, Blk.inL, Cells.inL, put_at, Try.results39, resP, tupOf]

theorem info_Same_ok (s sh m s2 sj m2 : Int) (g g2 : List Int) (hx : g.length ≤ 140737488355328) : PCall Try.prog 40 [.agg [.int .u8 s, .int .u8 sh, .int .i64 m, .ro (.ints .i64 g)], .agg [.int .u8 s2, .int .u8 sj, .int .i64 m2, .ro (.ints .i64 g2)]] (.bool (decide (s = s2) && decide (sh = sj) && decide (m = m2) && decide (g = g2))) := by
 refine pcall_body ty_ok Try.func40 rfl (by rfl) (by simp) ?_
 rw [Try.ntmps40]
 refine swp_seq fun K1 hK1 => ?_
 refine swp_region ty_ok ?_
 try simp (maxSteps := 1000000)
 repeat' (first | apply And.intro | intro _)
 any_goals (first | (refine hK1 _ ?_; clear hK1) | omega | (simp_all <;> omega))
 refine swp_seq fun K2 hK2 => ?_
 refine swp_region ty_ok ?_
 refine runs_cut 12 fun R3 hR3 => ?_
 try simp (maxSteps := 1000000) [List.take_succ_cons, List.take_zero, List.drop_succ_cons, List.drop_zero]
 repeat' (first | apply And.intro | intro _)
 any_goals (first | (refine hR3 _ ?_; clear hR3) | omega | (simp_all <;> omega))
 refine runs_cut 12 fun R4 hR4 => ?_
 try simp (maxSteps := 1000000) [List.take_succ_cons, List.take_zero, List.drop_succ_cons, List.drop_zero]
 repeat' (first | apply And.intro | intro _)
 any_goals (first | (refine hR4 _ ?_; clear hR4) | omega | (simp_all <;> omega))
 refine runs_cut 1 fun R5 hR5 => ?_
 try simp (maxSteps := 1000000) [List.take_succ_cons, List.take_zero, List.drop_succ_cons, List.drop_zero]
 first | refine .inl ⟨_, by (intros; exact Or.inl (equal_ok g g2 hx)), ?_⟩ | refine .inl ⟨_, fun hb => .inl (equal_ok g g2 hx), ?_⟩
 repeat' (first | apply And.intro | intro _)
 any_goals (first | (refine hR5 _ ?_; clear hR5) | omega | (simp_all <;> omega))
 try simp (maxSteps := 1000000) [List.take_succ_cons, List.take_zero, List.drop_succ_cons, List.drop_zero]
 repeat' (first | apply And.intro | intro _)
 any_goals (first | (refine hK2 _ ?_; clear hK2) | omega | (simp_all <;> omega))
 refine swp_ret ?_
 simp [fnPost, Try.results40, resP, tupOf]

theorem reedpiperef10_Same_ok (s sh m s2 sj m2 : Int) (g g2 : List Int) (hx : g.length ≤ 140737488355328) : PCall Try.prog 49 [.agg [.int .u8 s, .int .u8 sh, .int .i64 m, .ro (.ints .i64 g)], .agg [.int .u8 s2, .int .u8 sj, .int .i64 m2, .ro (.ints .i64 g2)]] (.bool (decide (s = s2) && decide (sh = sj) && decide (m = m2) && decide (g = g2))) := by
 refine pcall_body ty_ok Try.func49 rfl (by rfl) (by simp) ?_
 rw [Try.ntmps49]
 refine swp_seq fun K1 hK1 => ?_
 refine swp_region ty_ok ?_
 try simp (maxSteps := 1000000)
 repeat' (first | apply And.intro | intro _)
 any_goals (first | (refine hK1 _ ?_; clear hK1) | omega | (simp_all <;> omega))
 refine swp_seq fun K2 hK2 => ?_
 refine swp_region ty_ok ?_
 refine runs_cut 12 fun R3 hR3 => ?_
 try simp (maxSteps := 1000000) [List.take_succ_cons, List.take_zero, List.drop_succ_cons, List.drop_zero]
 repeat' (first | apply And.intro | intro _)
 any_goals (first | (refine hR3 _ ?_; clear hR3) | omega | (simp_all <;> omega))
 refine runs_cut 12 fun R4 hR4 => ?_
 try simp (maxSteps := 1000000) [List.take_succ_cons, List.take_zero, List.drop_succ_cons, List.drop_zero]
 repeat' (first | apply And.intro | intro _)
 any_goals (first | (refine hR4 _ ?_; clear hR4) | omega | (simp_all <;> omega))
 refine runs_cut 1 fun R5 hR5 => ?_
 try simp (maxSteps := 1000000) [List.take_succ_cons, List.take_zero, List.drop_succ_cons, List.drop_zero]
 first | refine .inl ⟨_, by (intros; exact Or.inl (reedpiperef06_Ints_ok g g2 hx)), ?_⟩ | refine .inl ⟨_, fun hb => .inl (reedpiperef06_Ints_ok g g2 hx), ?_⟩
 repeat' (first | apply And.intro | intro _)
 any_goals (first | (refine hR5 _ ?_; clear hR5) | omega | (simp_all <;> omega))
 try simp (maxSteps := 1000000) [List.take_succ_cons, List.take_zero, List.drop_succ_cons, List.drop_zero]
 repeat' (first | apply And.intro | intro _)
 any_goals (first | (refine hK2 _ ?_; clear hK2) | omega | (simp_all <;> omega))
 refine swp_ret ?_
 simp [fnPost, Try.results49, resP, tupOf]

end Go.Proofs.Ytmkgfgdipkagbaa

