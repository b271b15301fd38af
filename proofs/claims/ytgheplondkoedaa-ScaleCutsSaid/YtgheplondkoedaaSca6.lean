import Derived.Test.YtgheplondkoedaaWf
import Derived.Test.YtgheplondkoedaaTyh
import Derived.Test.YtgheplondkoedaaHbits
import Derived.Test.YtgheplondkoedaaHbits2
import Derived.Test.YtgheplondkoedaaHsrt
import Derived.Test.YtgheplondkoedaaHbk
import Derived.Test.YtgheplondkoedaaHst
import Derived.Test.YtgheplondkoedaaHbk5
import Derived.Test.YtgheplondkoedaaHbk9
import Derived.Test.YtgheplondkoedaaSca
import Derived.Test.YtgheplondkoedaaSca2
import Derived.Test.YtgheplondkoedaaSca3
import Derived.Test.YtgheplondkoedaaSca4
import Derived.Test.YtgheplondkoedaaSca5
namespace Go.Proofs.Ytgheplondkoedaa
set_option linter.unusedVariables false
set_option linter.unusedSimpArgs false
set_option maxRecDepth 10000
open Go Go.Pv

open Go.RowKit
def o1N (b : List Int) (a : Int × Int) (bk p : Int) : Int := if r1E b a bk p = 0 then r1N b a bk p else 0
def o1P (b : List Int) (a : Int × Int) (bk p : Int) : Int := if r1E b a bk p = 0 then r1P b a bk p else 0
def grt20 (l : List (List Int)) : Bool := (l.take 100).any (fun w => decide (500 < w.length)) || decide (100 < l.length)
def grt19 (l : List (List Sc)) : Bool := (l.take 100).any (fun w => decide (200 < w.length)) || decide (100 < l.length)
theorem grt_no {l : List (List Sc)} (h : grt19 l = false) : l.length ≤ 100 ∧ ∀ w ∈ l, w.length ≤ 200 := by
 unfold grt19 at h
 rw [Bool.or_eq_false_iff, decide_eq_false_iff_not, List.any_eq_false] at h
 refine ⟨by omega, fun w hw => ?_⟩
 have := h.1 w (by rw [List.take_of_length_le (by omega)]; exact hw)
 simpa using this
theorem grt_y {l : List (List Sc)} {k : Nat} (hk : k < l.length) (h1 : k < 100) (h : 200 < (l[k]?.getD []).length) : grt19 l = true := by
 unfold grt19
 rw [Bool.or_eq_true]
 refine .inl (List.any_eq_true.2 ⟨l[k]?.getD [], ?_, by simpa using h⟩)
 rw [List.getElem?_eq_getElem hk, Option.getD_some]
 exact List.mem_of_getElem? (i := k) (by rw [List.getElem?_take, if_pos h1, List.getElem?_eq_getElem hk])
theorem grt_e {l : List (List Sc)} {k : Nat} (hk : l.length ≤ k ∨ 100 ≤ k) (h : ∀ j < k, (l[j]?.getD []).length ≤ 200) : grt19 l = decide (100 < l.length) := by
 unfold grt19
 have : (l.take 100).any (fun w => decide (200 < w.length)) = false := by
  rw [List.any_eq_false]
  intro w hw
  obtain ⟨j, hj, rfl⟩ := List.getElem_of_mem hw
  rw [List.length_take] at hj
  have h2 := h j (by omega)
  rw [List.getElem?_eq_getElem (by omega), Option.getD_some] at h2
  rw [List.getElem_take]
  simp
  omega
 rw [this, Bool.false_or]
def grt20x (l : List (List Int)) : Bool := (l.take 100).any (fun w => decide (500 < w.length)) || decide (100 < l.length)
theorem grtI_no {l : List (List Int)} (h : grt20 l = false) : l.length ≤ 100 ∧ ∀ w ∈ l, w.length ≤ 500 := by
 unfold grt20 at h
 rw [Bool.or_eq_false_iff, decide_eq_false_iff_not, List.any_eq_false] at h
 refine ⟨by omega, fun w hw => ?_⟩
 have := h.1 w (by rw [List.take_of_length_le (by omega)]; exact hw)
 simpa using this
theorem grtI_y {l : List (List Int)} {k : Nat} (hk : k < l.length) (h1 : k < 100) (h : 500 < (l[k]?.getD []).length) : grt20 l = true := by
 unfold grt20
 rw [Bool.or_eq_true]
 refine .inl (List.any_eq_true.2 ⟨l[k]?.getD [], ?_, by simpa using h⟩)
 rw [List.getElem?_eq_getElem hk, Option.getD_some]
 exact List.mem_of_getElem? (i := k) (by rw [List.getElem?_take, if_pos h1, List.getElem?_eq_getElem hk])
theorem grtI_e {l : List (List Int)} {k : Nat} (hk : l.length ≤ k ∨ 100 ≤ k) (h : ∀ j < k, (l[j]?.getD []).length ≤ 500) : grt20 l = decide (100 < l.length) := by
 unfold grt20
 have : (l.take 100).any (fun w => decide (500 < w.length)) = false := by
  rw [List.any_eq_false]
  intro w hw
  obtain ⟨j, hj, rfl⟩ := List.getElem_of_mem hw
  rw [List.length_take] at hj
  have h2 := h j (by omega)
  rw [List.getElem?_eq_getElem (by omega), Option.getD_some] at h2
  rw [List.getElem_take]
  simp
  omega
 rw [this, Bool.false_or]

attribute [local simp] runs gd step1 need evu un opnds opv ev cst cst1 cstL getT getH putT onL nxt argT cellsOf PV.one thn inBlk jmp fldP ldP ldC live Cells.len Cells.get Cells.w sug ldv bin eqF eq1 ops2 sh2 binv Tk.agg stC apC rdS apS cpC cpS mvL zp argsP idx fillP toInts chunks mkC ixS ixA oidx slP sl0 slA optL List.append mxF bltn frzA frz frzL frz1 pur1 Cells.pur PV.scal scal1 runD rdO PV.ids id1 zids ety Eff.on cnd minb and1b ifmax ifmin mxv sugI strv w0 w1 w2 wm1
theorem great19_ok (l : List (List Sc)) : PCall Try.prog 31 [.ro (.rows 1 (l.map fun w => [.ro (.rows 2 (w.map Sc.row))]))] (.bool (grt19 l)) := by
 refine pcall_body ty_ok Try.func31 rfl (by rfl) (by simp) ?_
 rw [Try.ntmps31]
 refine swp_seq fun K1 hK1 => ?_
 refine swp_region ty_ok ?_
 try simp (maxSteps := 1000000)
 repeat' (first | apply And.intro | intro _)
 any_goals (first | (refine hK1 _ ?_; clear hK1) | omega | (simp_all <;> omega))
 refine swp_seq fun K2 hK2 => ?_
 refine swp_seq fun K3 hK3 => ?_
 refine swp_region ty_ok ?_
 try simp (maxSteps := 1000000)
 repeat' (first | apply And.intro | intro _)
 any_goals (first | (refine hK3 _ ?_; clear hK3) | omega | (simp_all <;> omega))
 refine swp_block ?_
 refine swp_loop 0 (fun m_ s_ => ∃ (k : Nat), (k ≤ l.length ∧ k ≤ 100) ∧ (∀ j < k, (l[j]?.getD []).length ≤ 200) ∧ s_ = ⟨[(0, .ro (.rows 1 (l.map fun w => [.ro (.rows 2 (w.map Sc.row))]))), (3, .int .i64 (k : Nat))], [], 0⟩ ∧ m_ = 100 - k) _ ⟨[(0, .ro (.rows 1 (l.map fun w => [.ro (.rows 2 (w.map Sc.row))]))), (3, .int .i64 (0 : Nat))], [], 0⟩ ⟨by simp [getT, PV.lo, lo1], by simp [getH, Blk.lo, Cells.lo, lo1], rfl, by omega⟩ ⟨(0), by omega, by simp, rfl, rfl⟩ ?_
 rintro m_ s_ ⟨k, hL4_0, hL4_1, rfl, rfl⟩ KL4 hL4
 have hkw := wnext (i := k) (by omega)
 refine swp_seq fun K5 hK5 => ?_
 refine swp_seq fun K6 hK6 => ?_
 refine swp_region ty_ok ?_
 try simp (maxSteps := 1000000)
 repeat' (first | apply And.intro | intro _)
 any_goals (first | (refine hK6 _ ?_; clear hK6) | omega | (simp_all <;> omega))
 refine swp_if fun C7 hC7 => ?_
 try simp (maxSteps := 1000000)
 refine hC7 _ (fun hc7 => ?_) (fun hc7 => ?_)
 ·clear hC7
  try simp at hc7
  refine swp_skip ?_
  try simp only [thn, inBlk]
  refine hK5 _ ?_; clear hK5
  refine swp_seq fun K8 hK8 => ?_
  refine swp_block ?_
  refine swp_seq fun K9 hK9 => ?_
  have hrow := s_at (l := l) (k := k) (by omega)
  refine swp_region ty_ok ?_
  try simp (maxSteps := 1000000) [hrow]
  repeat' (first | apply And.intro | intro _)
  any_goals (first | (refine hK9 _ ?_; clear hK9) | omega | (simp_all <;> omega))
  refine swp_if fun C10 hC10 => ?_
  try simp (maxSteps := 1000000) [hrow]
  refine hC10 _ (fun hc10 => ?_) (fun hc10 => ?_)
  ·clear hC10
   try simp at hc10
   refine swp_seq fun K11 hK11 => ?_
   refine swp_region ty_ok ?_
   try simp (maxSteps := 1000000)
   repeat' (first | apply And.intro | intro _)
   any_goals (first | (refine hK11 _ ?_; clear hK11) | omega | (simp_all <;> omega))
   refine swp_ret ?_
   simp [fnPost, Try.results31, resP, tupOf]
   exact grt_y (k := k) (by omega) (by omega) (by have h := hc10; omega)
  ·clear hC10
   try simp at hc10
   refine swp_skip ?_
   try simp only [thn, inBlk]
   refine hK8 _ ?_; clear hK8
   refine swp_region ty_ok ?_
   try simp (maxSteps := 1000000)
   repeat' apply And.intro
   any_goals (try omega)
   refine hL4 _ ⟨[(0, .ro (.rows 1 (l.map fun w => [.ro (.rows 2 (w.map Sc.row))]))), (3, .int .i64 ((k + 1) : Nat))], [], 0⟩ _ ?_ ⟨(k + 1), by omega, by (refine lt_step (by assumption) ?_; have h := hc10; omega), rfl, rfl⟩ ⟨by simp [getT, PV.lo, lo1, hkw], by simp [getH, Blk.lo, Cells.lo, lo1], rfl, by omega⟩
   omega
 ·clear hC7
  try simp at hc7
  refine swp_exit ?_
  simp [thn, inBlk]
  refine hK2 _ ?_; clear hK2
  refine swp_seq fun K12 hK12 => ?_
  refine swp_region ty_ok ?_
  try simp (maxSteps := 1000000)
  repeat' (first | apply And.intro | intro _)
  any_goals (first | (refine hK12 _ ?_; clear hK12) | omega | (simp_all <;> omega))
  refine swp_ret ?_
  simp [fnPost, Try.results31, resP, tupOf]
  rw [grt_e (l := l) (k := k) (by have h := hc7; omega) (by assumption)]
  exact decide_eq_decide.2 (by omega)

theorem great20_ok (st : List (List Int)) : PCall Try.prog 32 [.ro (.rows 1 (st.map fun w => [.ro (.ints .i64 w)]))] (.bool (grt20 st)) := by
 refine pcall_body ty_ok Try.func32 rfl (by rfl) (by simp) ?_
 rw [Try.ntmps32]
 refine swp_seq fun K1 hK1 => ?_
 refine swp_region ty_ok ?_
 try simp (maxSteps := 1000000)
 repeat' (first | apply And.intro | intro _)
 any_goals (first | (refine hK1 _ ?_; clear hK1) | omega | (simp_all <;> omega))
 refine swp_seq fun K2 hK2 => ?_
 refine swp_seq fun K3 hK3 => ?_
 refine swp_region ty_ok ?_
 try simp (maxSteps := 1000000)
 repeat' (first | apply And.intro | intro _)
 any_goals (first | (refine hK3 _ ?_; clear hK3) | omega | (simp_all <;> omega))
 refine swp_block ?_
 refine swp_loop 0 (fun m_ s_ => ∃ (k : Nat), (k ≤ st.length ∧ k ≤ 100) ∧ (∀ j < k, (st[j]?.getD []).length ≤ 500) ∧ s_ = ⟨[(0, .ro (.rows 1 (st.map fun w => [.ro (.ints .i64 w)]))), (3, .int .i64 (k : Nat))], [], 0⟩ ∧ m_ = 100 - k) _ ⟨[(0, .ro (.rows 1 (st.map fun w => [.ro (.ints .i64 w)]))), (3, .int .i64 (0 : Nat))], [], 0⟩ ⟨by simp [getT, PV.lo, lo1], by simp [getH, Blk.lo, Cells.lo, lo1], rfl, by omega⟩ ⟨(0), by omega, by simp, rfl, rfl⟩ ?_
 rintro m_ s_ ⟨k, hL4_0, hL4_1, rfl, rfl⟩ KL4 hL4
 have hkw := wnext (i := k) (by omega)
 refine swp_seq fun K5 hK5 => ?_
 refine swp_seq fun K6 hK6 => ?_
 refine swp_region ty_ok ?_
 try simp (maxSteps := 1000000)
 repeat' (first | apply And.intro | intro _)
 any_goals (first | (refine hK6 _ ?_; clear hK6) | omega | (simp_all <;> omega))
 refine swp_if fun C7 hC7 => ?_
 try simp (maxSteps := 1000000)
 refine hC7 _ (fun hc7 => ?_) (fun hc7 => ?_)
 ·clear hC7
  try simp at hc7
  refine swp_skip ?_
  try simp only [thn, inBlk]
  refine hK5 _ ?_; clear hK5
  refine swp_seq fun K8 hK8 => ?_
  refine swp_block ?_
  refine swp_seq fun K9 hK9 => ?_
  have hrow := i_at (l := st) (k := k) (by omega)
  refine swp_region ty_ok ?_
  try simp (maxSteps := 1000000) [hrow]
  repeat' (first | apply And.intro | intro _)
  any_goals (first | (refine hK9 _ ?_; clear hK9) | omega | (simp_all <;> omega))
  refine swp_if fun C10 hC10 => ?_
  try simp (maxSteps := 1000000) [hrow]
  refine hC10 _ (fun hc10 => ?_) (fun hc10 => ?_)
  ·clear hC10
   try simp at hc10
   refine swp_seq fun K11 hK11 => ?_
   refine swp_region ty_ok ?_
   try simp (maxSteps := 1000000)
   repeat' (first | apply And.intro | intro _)
   any_goals (first | (refine hK11 _ ?_; clear hK11) | omega | (simp_all <;> omega))
   refine swp_ret ?_
   simp [fnPost, Try.results32, resP, tupOf]
   exact grtI_y (k := k) (by omega) (by omega) (by have h := hc10; omega)
  ·clear hC10
   try simp at hc10
   refine swp_skip ?_
   try simp only [thn, inBlk]
   refine hK8 _ ?_; clear hK8
   refine swp_region ty_ok ?_
   try simp (maxSteps := 1000000)
   repeat' apply And.intro
   any_goals (try omega)
   refine hL4 _ ⟨[(0, .ro (.rows 1 (st.map fun w => [.ro (.ints .i64 w)]))), (3, .int .i64 ((k + 1) : Nat))], [], 0⟩ _ ?_ ⟨(k + 1), by omega, by (refine lt_step (by assumption) ?_; have h := hc10; omega), rfl, rfl⟩ ⟨by simp [getT, PV.lo, lo1, hkw], by simp [getH, Blk.lo, Cells.lo, lo1], rfl, by omega⟩
   omega
 ·clear hC7
  try simp at hc7
  refine swp_exit ?_
  simp [thn, inBlk]
  refine hK2 _ ?_; clear hK2
  refine swp_seq fun K12 hK12 => ?_
  refine swp_region ty_ok ?_
  try simp (maxSteps := 1000000)
  repeat' (first | apply And.intro | intro _)
  any_goals (first | (refine hK12 _ ?_; clear hK12) | omega | (simp_all <;> omega))
  refine swp_ret ?_
  simp [fnPost, Try.results32, resP, tupOf]
  rw [grtI_e (l := st) (k := k) (by have h := hc7; omega) (by assumption)]
  exact decide_eq_decide.2 (by omega)

end Go.Proofs.Ytgheplondkoedaa

