import Derived.Test.YtmkgfgdipkagbaaWf
import Derived.Test.YtmkgfgdipkagbaaTyl
import Derived.Test.YtmkgfgdipkagbaaLband
import Derived.Test.YtmkgfgdipkagbaaLinfo
import Derived.Test.YtmkgfgdipkagbaaLinfo2
import Derived.Test.YtmkgfgdipkagbaaLbits
import Derived.Test.YtmkgfgdipkagbaaLtns
import Derived.Test.YtmkgfgdipkagbaaLtnp
import Derived.Test.YtmkgfgdipkagbaaLtnl
import Derived.Test.YtmkgfgdipkagbaaLlan
import Derived.Test.YtmkgfgdipkagbaaLlan2
import Derived.Test.YtmkgfgdipkagbaaLlan3
namespace Go.Proofs.Ytmkgfgdipkagbaa
set_option linter.unusedVariables false
set_option linter.unusedSimpArgs false
set_option maxRecDepth 10000
open Go Go.Pv


open Go.RowKit
def zL : List Int := List.replicate 256 0
def srZ (m : Int) : List Sc := if 0 < m then [⟨0, m⟩] else []
def seZ (m : Int) (k : Nat) : List (List Sc) := List.replicate k (srZ m)
def stZ (m : Int) (k : Nat) : List (List Int) := List.replicate k (List.replicate m.toNat 0)
def tnZ (n : Int) : List (List Fl) := List.replicate n.toNat []
attribute [local simp] runs gd step1 need evu un opnds opv ev cst cst1 cstL getT getH putT onL nxt argT cellsOf PV.one thn inBlk jmp fldP ldP ldC live Cells.len Cells.get Cells.w sug ldv bin eqF eq1 ops2 sh2 binv Tk.agg stC apC rdS apS cpC cpS mvL zp argsP idx fillP toInts chunks mkC ixS ixA oidx slP sl0 slA optL List.append mxF bltn frzA frz frzL frz1 pur1 Cells.pur PV.scal scal1 runD rdO PV.ids id1 zids ety Eff.on cnd minb and1b ifmax ifmin mxv sugI strv w0 w1 w2 wm1
theorem clone_ip (xs : List Int) (hx : xs.length ≤ 17592186043000) : PCall Try.prog 39 [.ro (.ints .i64 xs)] (.ro (.ints .i64 xs)) := by
 refine pcall_body ty_ok Try.func39 rfl (by rfl) (by simp) ?_
 rw [Try.ntmps39]
 refine swp_seq fun K1 hK1 => ?_
 refine swp_region ty_ok ?_
 try simp (maxSteps := 1000000)
 repeat' (first | apply And.intro | intro _)
 any_goals (first | (refine hK1 _ ?_; clear hK1) | omega | (simp_all <;> omega))
 refine swp_seq fun K2 hK2 => ?_
 refine swp_seq fun K3 hK3 => ?_
 refine swp_isnil ty_ok (t := 22) (e := 3) (d := 3) (b := 4) rfl rfl (by simp [ev, getT]; rfl) (by omega) (by omega) (fun v hv => ?_) ⟨rfl, rfl, rfl, rfl⟩ ⟨rfl, rfl, rfl⟩
 simp only [thn, inBlk]
 refine hK3 _ ?_; clear hK3
 refine swp_if fun C4 hC4 => ?_
 try simp (maxSteps := 1000000)
 refine hC4 _ (fun hc4 => ?_) (fun hc4 => ?_)
 ·clear hC4
  try simp at hc4
  refine swp_seq fun K5 hK5 => ?_
  refine swp_region ty_ok ?_
  try simp (maxSteps := 1000000)
  repeat' (first | apply And.intro | intro _)
  any_goals (first | (refine hK5 _ ?_; clear hK5) | omega | (simp_all <;> omega))
  refine swp_own 2 3 (by simp [getT]; rfl) rfl ?_
  refine swp_ret ?_
  simp [fnPost, Try.results39, resP, tupOf]
  exact List.eq_nil_of_length_eq_zero (hv (by assumption))
 ·clear hC4
  try simp at hc4
  refine swp_skip ?_
  try simp only [thn, inBlk]
  refine hK2 _ ?_; clear hK2
  refine swp_seq fun K6 hK6 => ?_
  refine swp_region ty_ok ?_
  refine runs_cut 1 fun R7 hR7 => ?_
  try simp (maxSteps := 1000000) [List.take_succ_cons, List.take_zero, List.drop_succ_cons, List.drop_zero]
  repeat' (first | apply And.intro | intro _)
  any_goals (first | (refine Or.inr (hR7 _ ?_); clear hR7) | omega | (simp_all <;> omega))
  try simp (maxSteps := 1000000) [List.take_succ_cons, List.take_zero, List.drop_succ_cons, List.drop_zero]
  repeat' (first | apply And.intro | intro _)
  any_goals (first | (refine hK6 _ ?_; clear hK6) | omega | (simp_all <;> omega))
  refine swp_ret ?_
  simp [fnPost, Try.results39, resP, tupOf]

theorem twin_P (s sh m : Int) (g : List Int) (hx : g.length ≤ 17592186043000) : PCall Try.prog 35 [.agg [.int .u8 s, .int .u8 sh, .int .i64 m, .ro (.ints .i64 g)]] (.agg [.int .u8 s, .int .u8 sh, .int .i64 m, .ro (.ints .i64 g)]) := by
 refine pcall_body ty_ok Try.func35 rfl (by rfl) (by simp) ?_
 rw [Try.ntmps35]
 refine swp_seq fun K1 hK1 => ?_
 refine swp_region ty_ok ?_
 try simp (maxSteps := 1000000)
 repeat' (first | apply And.intro | intro _)
 any_goals (first | (refine hK1 _ ?_; clear hK1) | omega | (simp_all <;> omega))
 refine swp_seq fun K2 hK2 => ?_
 refine swp_region ty_ok ?_
 refine runs_cut 2 fun R3 hR3 => ?_
 try simp (maxSteps := 1000000) [List.take_succ_cons, List.take_zero, List.drop_succ_cons, List.drop_zero]
 repeat' (first | apply And.intro | intro _)
 any_goals (first | (refine hR3 _ ?_; clear hR3) | omega | (simp_all <;> omega))
 refine runs_cut 1 fun R4 hR4 => ?_
 try simp (maxSteps := 1000000) [List.take_succ_cons, List.take_zero, List.drop_succ_cons, List.drop_zero]
 refine .inl ⟨_, clone_ip g hx, ?_⟩
 try simp (maxSteps := 1000000)
 repeat' (first | apply And.intro | intro _)
 any_goals (first | (refine hR4 _ ?_; clear hR4) | omega | (simp_all <;> omega))
 try simp (maxSteps := 1000000) [List.take_succ_cons, List.take_zero, List.drop_succ_cons, List.drop_zero]
 repeat' (first | apply And.intro | intro _)
 any_goals (first | (refine hK2 _ ?_; clear hK2) | omega | (simp_all <;> omega))
 refine swp_seq fun K5 hK5 => ?_
 refine swp_region ty_ok ?_
 try simp (maxSteps := 1000000)
 repeat' (first | apply And.intro | intro _)
 any_goals (first | (refine hK5 _ ?_; clear hK5) | omega | (simp_all <;> omega))
 refine swp_ret ?_
 simp [fnPost, Try.results35, resP, tupOf]

end Go.Proofs.Ytmkgfgdipkagbaa

