import Derived.Test.YtgheplondkoedaaWf
import Derived.Test.YtgheplondkoedaaTyh
import Derived.Test.YtgheplondkoedaaHbits
import Derived.Test.YtgheplondkoedaaHbits2
import Derived.Test.YtgheplondkoedaaHsrt
import Derived.Test.YtgheplondkoedaaHbk
import Derived.Test.YtgheplondkoedaaHst
import Derived.Test.YtgheplondkoedaaHbk5
import Derived.Test.YtgheplondkoedaaHbk9
import Derived.Test.YtgheplondkoedaaSca
import Derived.Test.YtgheplondkoedaaSca2
import Derived.Test.YtgheplondkoedaaSca3
import Derived.Test.YtgheplondkoedaaSca4
import Derived.Test.YtgheplondkoedaaSca5
namespace Go.Proofs.Ytgheplondkoedaa
set_option linter.unusedVariables false
set_option linter.unusedSimpArgs false
set_option maxRecDepth 10000
open Go Go.Pv

open Go.RowKit
def o1N (b : List Int) (a : Int × Int) (bk p : Int) : Int := if r1E b a bk p = 0 then r1N b a bk p else 0
def o1P (b : List Int) (a : Int × Int) (bk p : Int) : Int := if r1E b a bk p = 0 then r1P b a bk p else 0
theorem st60 {b : List Int} {p : Int} (hb : ∀ k : Nat, 0 ≤ b[k]?.getD 0 ∧ b[k]?.getD 0 ≤ 255) : -60 ≤ stV b p ∧ stV b p ≤ 60 := by
 by_cases h : stE b p = 0
 ·have := (step_got hb h).1
  unfold St60 at this
  exact this
 ·rw [(st_err h).2.2.1]
  omega
theorem stP_bd {b : List Int} {p : Int} (hb : ∀ k : Nat, 0 ≤ b[k]?.getD 0 ∧ b[k]?.getD 0 ≤ 255) (hl : b.length ≤ 1000000) : 0 ≤ stP b p ∧ stP b p ≤ 1000000 := by
 by_cases h : stE b p = 0
 ·obtain ⟨_, n, h1, h2, h3, _⟩ := step_got hb h
  omega
 ·rw [(st_err h).2.2.2]
  omega
theorem getP_in {b : List Int} {p z : Int} (hb : b.length ≤ 1000000) : 0 ≤ getP b p z ∧ getP b p z ≤ 1000000 := by
 unfold getP
 split
 ·rename_i h
  obtain ⟨h1, h2, h3, h4⟩ := getE_zero h
  omega
 ·omega
theorem r1P_bd {b : List Int} {a : Int × Int} {bk p : Int} (hb : ∀ k : Nat, 0 ≤ b[k]?.getD 0 ∧ b[k]?.getD 0 ≤ 255) (hl : b.length ≤ 1000000) (hp : 0 ≤ p ∧ p ≤ 1000000) : 0 ≤ r1P b a bk p ∧ r1P b a bk p ≤ 1000000 := by
 unfold r1P
 split
 ·exact hp
 ·split
  ·exact getP_in hl
  ·exact stP_bd hb hl
theorem rwP_bd {b bs : List Int} {a : Int × Int} {p : Int} (hb : ∀ k : Nat, 0 ≤ b[k]?.getD 0 ∧ b[k]?.getD 0 ≤ 255) (hl : b.length ≤ 1000000) (hp : 0 ≤ p ∧ p ≤ 1000000) : ∀ k, 0 ≤ (rwS b bs p a k).p ∧ (rwS b bs p a k).p ≤ 1000000
 | 0 => hp
 | k + 1 => by rw [rwS]; exact r1P_bd hb hl (rwP_bd hb hl hp k)
theorem rwA_ok {b bs : List Int} {a : Int × Int} {p : Int} (hb : ∀ y ∈ b, 0 ≤ y ∧ y ≤ 255) (hp : 0 ≤ p ∧ p ≤ b.length) (ha : AOk a) {k : Nat} (h : rwE b bs p a k = 0) : AOk (rwS b bs p a k).a := by
 obtain ⟨h1, h2, _⟩ := rw_ok hb hp k h
 rw [h2]
 exact aN_ok ha k h1
theorem gA_ok {b : List Int} {l : List (List Sc)} {ga p : Int} (hb : ∀ y ∈ b, 0 ≤ y ∧ y ≤ 255) (hp : 0 ≤ p ∧ p ≤ b.length) (hg : 0 ≤ ga ∧ ga ≤ 255) {k : Nat} (h : gE b l ga p k = 0) : AOk (gS b l ga p k).a ∧ 0 ≤ (gS b l ga p k).p ∧ (gS b l ga p k).p ≤ b.length := by
 obtain ⟨h1, h2, h3⟩ := g_ok hb hp k h
 rw [h2]
 exact ⟨gN_ok hg k h1, by have := h3.1; have := h3.2.1; omega, h3.2.2.1⟩
def grt20 (l : List (List Int)) : Bool := (l.take 100).any (fun w => decide (500 < w.length)) || decide (100 < l.length)
def grt19 (l : List (List Sc)) : Bool := (l.take 100).any (fun w => decide (200 < w.length)) || decide (100 < l.length)
theorem grt_no {l : List (List Sc)} (h : grt19 l = false) : l.length ≤ 100 ∧ ∀ w ∈ l, w.length ≤ 200 := by
 unfold grt19 at h
 rw [Bool.or_eq_false_iff, decide_eq_false_iff_not, List.any_eq_false] at h
 refine ⟨by omega, fun w hw => ?_⟩
 have := h.1 w (by rw [List.take_of_length_le (by omega)]; exact hw)
 simpa using this
theorem grt_y {l : List (List Sc)} {k : Nat} (hk : k < l.length) (h1 : k < 100) (h : 200 < (l[k]?.getD []).length) : grt19 l = true := by
 unfold grt19
 rw [Bool.or_eq_true]
 refine .inl (List.any_eq_true.2 ⟨l[k]?.getD [], ?_, by simpa using h⟩)
 rw [List.getElem?_eq_getElem hk, Option.getD_some]
 exact List.mem_of_getElem? (i := k) (by rw [List.getElem?_take, if_pos h1, List.getElem?_eq_getElem hk])
theorem grt_e {l : List (List Sc)} {k : Nat} (hk : l.length ≤ k ∨ 100 ≤ k) (h : ∀ j < k, (l[j]?.getD []).length ≤ 200) : grt19 l = decide (100 < l.length) := by
 unfold grt19
 have : (l.take 100).any (fun w => decide (200 < w.length)) = false := by
  rw [List.any_eq_false]
  intro w hw
  obtain ⟨j, hj, rfl⟩ := List.getElem_of_mem hw
  rw [List.length_take] at hj
  have h2 := h j (by omega)
  rw [List.getElem?_eq_getElem (by omega), Option.getD_some] at h2
  rw [List.getElem_take]
  simp
  omega
 rw [this, Bool.false_or]
def grt20x (l : List (List Int)) : Bool := (l.take 100).any (fun w => decide (500 < w.length)) || decide (100 < l.length)
theorem grtI_no {l : List (List Int)} (h : grt20 l = false) : l.length ≤ 100 ∧ ∀ w ∈ l, w.length ≤ 500 := by
 unfold grt20 at h
 rw [Bool.or_eq_false_iff, decide_eq_false_iff_not, List.any_eq_false] at h
 refine ⟨by omega, fun w hw => ?_⟩
 have := h.1 w (by rw [List.take_of_length_le (by omega)]; exact hw)
 simpa using this
theorem grtI_y {l : List (List Int)} {k : Nat} (hk : k < l.length) (h1 : k < 100) (h : 500 < (l[k]?.getD []).length) : grt20 l = true := by
 unfold grt20
 rw [Bool.or_eq_true]
 refine .inl (List.any_eq_true.2 ⟨l[k]?.getD [], ?_, by simpa using h⟩)
 rw [List.getElem?_eq_getElem hk, Option.getD_some]
 exact List.mem_of_getElem? (i := k) (by rw [List.getElem?_take, if_pos h1, List.getElem?_eq_getElem hk])
theorem grtI_e {l : List (List Int)} {k : Nat} (hk : l.length ≤ k ∨ 100 ≤ k) (h : ∀ j < k, (l[j]?.getD []).length ≤ 500) : grt20 l = decide (100 < l.length) := by
 unfold grt20
 have : (l.take 100).any (fun w => decide (500 < w.length)) = false := by
  rw [List.any_eq_false]
  intro w hw
  obtain ⟨j, hj, rfl⟩ := List.getElem_of_mem hw
  rw [List.length_take] at hj
  have h2 := h j (by omega)
  rw [List.getElem?_eq_getElem (by omega), Option.getD_some] at h2
  rw [List.getElem_take]
  simp
  omega
 rw [this, Bool.false_or]

attribute [local simp] runs gd step1 need evu un opnds opv ev cst cst1 cstL getT getH putT onL nxt argT cellsOf PV.one thn inBlk jmp fldP ldP ldC live Cells.len Cells.get Cells.w sug ldv bin eqF eq1 ops2 sh2 binv Tk.agg stC apC rdS apS cpC cpS mvL zp argsP idx fillP toInts chunks mkC ixS ixA oidx slP sl0 slA optL List.append mxF bltn frzA frz frzL frz1 pur1 Cells.pur PV.scal scal1 runD rdO PV.ids id1 zids ety Eff.on cnd minb and1b ifmax ifmin mxv sugI strv w0 w1 w2 wm1
theorem great19_ok (l : List (List Sc)) : PCall Try.prog 31 [.ro (.rows 1 (l.map fun w => [.ro (.rows 2 (w.map Sc.row))]))] (.bool (grt19 l)) := by
 refine pcall_body ty_ok Try.func31 rfl (by rfl) (by simp) ?_
 rw [Try.ntmps31]
 refine swp_seq fun K1 hK1 => ?_
 refine swp_region ty_ok ?_
 try simp (maxSteps := 1000000)
 repeat' (first | apply And.intro | intro _)
 any_goals (first | (refine hK1 _ ?_; clear hK1) | omega | (simp_all <;> omega))
 refine swp_seq fun K2 hK2 => ?_
 refine swp_seq fun K3 hK3 => ?_
 refine swp_region ty_ok ?_
 try simp (maxSteps := 1000000)
 repeat' (first | apply And.intro | intro _)
 any_goals (first | (refine hK3 _ ?_; clear hK3) | omega | (simp_all <;> omega))
 refine swp_block ?_
 refine swp_loop 0 (fun m_ s_ => ∃ (k : Nat), (k ≤ l.length ∧ k ≤ 100) ∧ (∀ j < k, (l[j]?.getD []).length ≤ 200) ∧ s_ = ⟨[(0, .ro (.rows 1 (l.map fun w => [.ro (.rows 2 (w.map Sc.row))]))), (3, .int .i64 (k : Nat))], [], 0⟩ ∧ m_ = 100 - k) _ ⟨[(0, .ro (.rows 1 (l.map fun w => [.ro (.rows 2 (w.map Sc.row))]))), (3, .int .i64 (0 : Nat))], [], 0⟩ ⟨by simp [getT, PV.lo, lo1], by simp [getH, Blk.lo, Cells.lo, lo1], rfl, by omega⟩ ⟨(0), by omega, by simp, rfl, rfl⟩ ?_
 rintro m_ s_ ⟨k, hL4_0, hL4_1, rfl, rfl⟩ KL4 hL4
 have hkw := wnext (i := k) (by omega)
 refine swp_seq fun K5 hK5 => ?_
 refine swp_seq fun K6 hK6 => ?_
 refine swp_region ty_ok ?_
 try simp (maxSteps := 1000000)
 repeat' (first | apply And.intro | intro _)
 any_goals (first | (refine hK6 _ ?_; clear hK6) | omega | (simp_all <;> omega))
 refine swp_if fun C7 hC7 => ?_
 try simp (maxSteps := 1000000)
 refine hC7 _ (fun hc7 => ?_) (fun hc7 => ?_)
 ·clear hC7
  try simp at hc7
  refine swp_skip ?_
  try simp only [thn, inBlk]
  refine hK5 _ ?_; clear hK5
  refine swp_seq fun K8 hK8 => ?_
  refine swp_block ?_
  refine swp_seq fun K9 hK9 => ?_
  have hrow := s_at (l := l) (k := k) (by omega)
  refine swp_region ty_ok ?_
  try simp (maxSteps := 1000000) [hrow]
  repeat' (first | apply And.intro | intro _)
  any_goals (first | (refine hK9 _ ?_; clear hK9) | omega | (simp_all <;> omega))
  refine swp_if fun C10 hC10 => ?_
  try simp (maxSteps := 1000000) [hrow]
  refine hC10 _ (fun hc10 => ?_) (fun hc10 => ?_)
  ·clear hC10
   try simp at hc10
   refine swp_seq fun K11 hK11 => ?_
   refine swp_region ty_ok ?_
   try simp (maxSteps := 1000000)
   repeat' (first | apply And.intro | intro _)
   any_goals (first | (refine hK11 _ ?_; clear hK11) | omega | (simp_all <;> omega))
   refine swp_ret ?_
   simp [fnPost, Try.results31, resP, tupOf]
   exact grt_y (k := k) (by omega) (by omega) (by have h := hc10; omega)
  ·clear hC10
   try simp at hc10
   refine swp_skip ?_
   try simp only [thn, inBlk]
   refine hK8 _ ?_; clear hK8
   refine swp_region ty_ok ?_
   try simp (maxSteps := 1000000)
   repeat' apply And.intro
   any_goals (try omega)
   refine hL4 _ ⟨[(0, .ro (.rows 1 (l.map fun w => [.ro (.rows 2 (w.map Sc.row))]))), (3, .int .i64 ((k + 1) : Nat))], [], 0⟩ _ ?_ ⟨(k + 1), by omega, by (refine lt_step (by assumption) ?_; have h := hc10; omega), rfl, rfl⟩ ⟨by simp [getT, PV.lo, lo1, hkw], by simp [getH, Blk.lo, Cells.lo, lo1], rfl, by omega⟩
   omega
 ·clear hC7
  try simp at hc7
  refine swp_exit ?_
  simp [thn, inBlk]
  refine hK2 _ ?_; clear hK2
  refine swp_seq fun K12 hK12 => ?_
  refine swp_region ty_ok ?_
  try simp (maxSteps := 1000000)
  repeat' (first | apply And.intro | intro _)
  any_goals (first | (refine hK12 _ ?_; clear hK12) | omega | (simp_all <;> omega))
  refine swp_ret ?_
  simp [fnPost, Try.results31, resP, tupOf]
  rw [grt_e (l := l) (k := k) (by have h := hc7; omega) (by assumption)]
  exact decide_eq_decide.2 (by omega)

theorem great20_ok (st : List (List Int)) : PCall Try.prog 32 [.ro (.rows 1 (st.map fun w => [.ro (.ints .i64 w)]))] (.bool (grt20 st)) := by
 refine pcall_body ty_ok Try.func32 rfl (by rfl) (by simp) ?_
 rw [Try.ntmps32]
 refine swp_seq fun K1 hK1 => ?_
 refine swp_region ty_ok ?_
 try simp (maxSteps := 1000000)
 repeat' (first | apply And.intro | intro _)
 any_goals (first | (refine hK1 _ ?_; clear hK1) | omega | (simp_all <;> omega))
 refine swp_seq fun K2 hK2 => ?_
 refine swp_seq fun K3 hK3 => ?_
 refine swp_region ty_ok ?_
 try simp (maxSteps := 1000000)
 repeat' (first | apply And.intro | intro _)
 any_goals (first | (refine hK3 _ ?_; clear hK3) | omega | (simp_all <;> omega))
 refine swp_block ?_
 refine swp_loop 0 (fun m_ s_ => ∃ (k : Nat), (k ≤ st.length ∧ k ≤ 100) ∧ (∀ j < k, (st[j]?.getD []).length ≤ 500) ∧ s_ = ⟨[(0, .ro (.rows 1 (st.map fun w => [.ro (.ints .i64 w)]))), (3, .int .i64 (k : Nat))], [], 0⟩ ∧ m_ = 100 - k) _ ⟨[(0, .ro (.rows 1 (st.map fun w => [.ro (.ints .i64 w)]))), (3, .int .i64 (0 : Nat))], [], 0⟩ ⟨by simp [getT, PV.lo, lo1], by simp [getH, Blk.lo, Cells.lo, lo1], rfl, by omega⟩ ⟨(0), by omega, by simp, rfl, rfl⟩ ?_
 rintro m_ s_ ⟨k, hL4_0, hL4_1, rfl, rfl⟩ KL4 hL4
 have hkw := wnext (i := k) (by omega)
 refine swp_seq fun K5 hK5 => ?_
 refine swp_seq fun K6 hK6 => ?_
 refine swp_region ty_ok ?_
 try simp (maxSteps := 1000000)
 repeat' (first | apply And.intro | intro _)
 any_goals (first | (refine hK6 _ ?_; clear hK6) | omega | (simp_all <;> omega))
 refine swp_if fun C7 hC7 => ?_
 try simp (maxSteps := 1000000)
 refine hC7 _ (fun hc7 => ?_) (fun hc7 => ?_)
 ·clear hC7
  try simp at hc7
  refine swp_skip ?_
  try simp only [thn, inBlk]
  refine hK5 _ ?_; clear hK5
  refine swp_seq fun K8 hK8 => ?_
  refine swp_block ?_
  refine swp_seq fun K9 hK9 => ?_
  have hrow := i_at (l := st) (k := k) (by omega)
  refine swp_region ty_ok ?_
  try simp (maxSteps := 1000000) [hrow]
  repeat' (first | apply And.intro | intro _)
  any_goals (first | (refine hK9 _ ?_; clear hK9) | omega | (simp_all <;> omega))
  refine swp_if fun C10 hC10 => ?_
  try simp (maxSteps := 1000000) [hrow]
  refine hC10 _ (fun hc10 => ?_) (fun hc10 => ?_)
  ·clear hC10
   try simp at hc10
   refine swp_seq fun K11 hK11 => ?_
   refine swp_region ty_ok ?_
   try simp (maxSteps := 1000000)
   repeat' (first | apply And.intro | intro _)
   any_goals (first | (refine hK11 _ ?_; clear hK11) | omega | (simp_all <;> omega))
   refine swp_ret ?_
   simp [fnPost, Try.results32, resP, tupOf]
   exact grtI_y (k := k) (by omega) (by omega) (by have h := hc10; omega)
  ·clear hC10
   try simp at hc10
   refine swp_skip ?_
   try simp only [thn, inBlk]
   refine hK8 _ ?_; clear hK8
   refine swp_region ty_ok ?_
   try simp (maxSteps := 1000000)
   repeat' apply And.intro
   any_goals (try omega)
   refine hL4 _ ⟨[(0, .ro (.rows 1 (st.map fun w => [.ro (.ints .i64 w)]))), (3, .int .i64 ((k + 1) : Nat))], [], 0⟩ _ ?_ ⟨(k + 1), by omega, by (refine lt_step (by assumption) ?_; have h := hc10; omega), rfl, rfl⟩ ⟨by simp [getT, PV.lo, lo1, hkw], by simp [getH, Blk.lo, Cells.lo, lo1], rfl, by omega⟩
   omega
 ·clear hC7
  try simp at hc7
  refine swp_exit ?_
  simp [thn, inBlk]
  refine hK2 _ ?_; clear hK2
  refine swp_seq fun K12 hK12 => ?_
  refine swp_region ty_ok ?_
  try simp (maxSteps := 1000000)
  repeat' (first | apply And.intro | intro _)
  any_goals (first | (refine hK12 _ ?_; clear hK12) | omega | (simp_all <;> omega))
  refine swp_ret ?_
  simp [fnPost, Try.results32, resP, tupOf]
  rw [grtI_e (l := st) (k := k) (by have h := hc7; omega) (by assumption)]
  exact decide_eq_decide.2 (by omega)

set_option maxHeartbeats 2000000 in
theorem rsameI_ok (xs ys : List (List Int)) (hx : xs.length ≤ 1000000) (hw : ∀ w ∈ xs, w.length ≤ 1000000) : PCall Try.prog 41 [.ro (.rows 1 (xs.map fun w => [PV.ro (.ints .i64 w)])), .ro (.rows 1 (ys.map fun w => [PV.ro (.ints .i64 w)]))] (.bool (decide (xs = ys))) := by
 refine pcall_body ty_ok Try.func41 rfl (by rfl) (by simp) ?_
 rw [Try.ntmps41]
 refine swp_seq fun K1 hK1 => ?_
 refine swp_region ty_ok ?_
 try simp (maxSteps := 1000000)
 repeat' (first | apply And.intro | intro _)
 any_goals (first | (refine hK1 _ ?_; clear hK1) | omega | (simp_all <;> omega))
 refine swp_seq fun K2 hK2 => ?_
 refine swp_seq fun K3 hK3 => ?_
 refine swp_region ty_ok ?_
 try simp (maxSteps := 1000000)
 repeat' (first | apply And.intro | intro _)
 any_goals (first | (refine hK3 _ ?_; clear hK3) | omega | (simp_all <;> omega))
 refine swp_if fun C4 hC4 => ?_
 try simp (maxSteps := 1000000)
 refine hC4 _ (fun hc4 => ?_) (fun hc4 => ?_)
 ·clear hC4
  try simp at hc4
  refine swp_seq fun K5 hK5 => ?_
  refine swp_region ty_ok ?_
  try simp (maxSteps := 1000000)
  repeat' (first | apply And.intro | intro _)
  any_goals (first | (refine hK5 _ ?_; clear hK5) | omega | (simp_all <;> omega))
  refine swp_ret ?_
  simp [fnPost, Try.results41, resP, tupOf]
  exact eqs_len (by omega)
 ·clear hC4
  try simp at hc4
  refine swp_skip ?_
  try simp only [thn, inBlk]
  refine hK2 _ ?_; clear hK2
  refine swp_seq fun K6 hK6 => ?_
  refine swp_seq fun K7 hK7 => ?_
  refine swp_region ty_ok ?_
  try simp (maxSteps := 1000000)
  repeat' (first | apply And.intro | intro _)
  any_goals (first | (refine hK7 _ ?_; clear hK7) | omega | (simp_all <;> omega))
  refine swp_block ?_
  refine swp_loop 0 (fun m_ s_ => ∃ (k : Nat), (k ≤ xs.length) ∧ (xs.length = ys.length) ∧ (∀ j < k, xs[j]?.getD [] = ys[j]?.getD []) ∧ s_ = ⟨[(0, .ro (.rows 1 (xs.map fun w => [PV.ro (.ints .i64 w)]))), (1, .ro (.rows 1 (ys.map fun w => [PV.ro (.ints .i64 w)]))), (5, .int .i64 (k : Nat))], [], 0⟩ ∧ m_ = xs.length - k) _ ⟨[(0, .ro (.rows 1 (xs.map fun w => [PV.ro (.ints .i64 w)]))), (1, .ro (.rows 1 (ys.map fun w => [PV.ro (.ints .i64 w)]))), (5, .int .i64 (0 : Nat))], [], 0⟩ ⟨by simp [getT, PV.lo, lo1], by simp [getH, Blk.lo, Cells.lo, lo1], rfl, by omega⟩ ⟨(0), by omega, by omega, by simp, rfl, rfl⟩ ?_
  rintro m_ s_ ⟨k, hL8_0, hL8_1, hL8_2, rfl, rfl⟩ KL8 hL8
  have hkw : IntKind.i64.wrap ((k : Int) + 1) = (((k + 1 : Nat)) : Int) := wnext (by omega)
  refine swp_seq fun K9 hK9 => ?_
  refine swp_seq fun K10 hK10 => ?_
  refine swp_region ty_ok ?_
  try simp (maxSteps := 1000000)
  repeat' (first | apply And.intro | intro _)
  any_goals (first | (refine hK10 _ ?_; clear hK10) | omega | (simp_all <;> omega))
  refine swp_if fun C11 hC11 => ?_
  try simp (maxSteps := 1000000)
  refine hC11 _ (fun hc11 => ?_) (fun hc11 => ?_)
  ·clear hC11
   try simp at hc11
   refine swp_skip ?_
   try simp only [thn, inBlk]
   refine hK9 _ ?_; clear hK9
   refine swp_seq fun K12 hK12 => ?_
   refine swp_block ?_
   refine swp_seq fun K13 hK13 => ?_
   have hra := i_at (l := xs) (k := k) (by omega)
   have hrb := i_at (l := ys) (k := k) (by omega)
   have hwk : (xs[k]?.getD []).length ≤ 1000000 := hw _ (mem_at (w := xs) (j := k) (by omega))
   refine swp_draw ty_ok mixed (ms := [0, 0, 3, 7, 0, 0, 48, 112, 255, 511]) (by kernel_rfl) ?_
   refine runD_cut 8 fun R14 hR14 => ?_
   try simp (maxSteps := 1000000) [hra, hrb, List.take_succ_cons, List.take_zero, List.drop_succ_cons, List.drop_zero]
   repeat' (first | apply And.intro | intro _)
   any_goals (first | (refine hR14 _ _ _ _ ?_; clear hR14) | omega | (simp_all <;> omega))
   refine runD_cut 1 fun R15 hR15 => ?_
   try simp (maxSteps := 1000000) [hra, hrb, List.take_succ_cons, List.take_zero, List.drop_succ_cons, List.drop_zero]
   refine .inl ⟨_, reedpiperef06_Ints_ok (xs[k]?.getD []) (ys[k]?.getD []) (by omega), ?_⟩
   try simp (maxSteps := 1000000) [hra, hrb]
   repeat' (first | apply And.intro | intro _)
   any_goals (first | (refine hR15 _ _ _ _ ?_; clear hR15) | omega | (simp_all <;> omega))
   try simp (maxSteps := 1000000) [hra, hrb, List.take_succ_cons, List.take_zero, List.drop_succ_cons, List.drop_zero]
   repeat' (first | apply And.intro | intro _)
   any_goals (first | kernel_rfl | (refine hK13 _ ?_; clear hK13) | omega | (simp_all <;> omega))
   refine swp_if fun C17 hC17 => ?_
   try simp (maxSteps := 1000000) [hra, hrb]
   refine hC17 _ (fun hc17 => ?_) (fun hc17 => ?_)
   ·clear hC17
    try simp at hc17
    refine swp_seq fun K18 hK18 => ?_
    refine swp_region ty_ok ?_
    try simp (maxSteps := 1000000)
    repeat' (first | apply And.intro | intro _)
    any_goals (first | (refine hK18 _ ?_; clear hK18) | omega | (simp_all <;> omega))
    refine swp_ret ?_
    simp [fnPost, Try.results41, resP, tupOf]
    exact eqs_no [] (k := k) (by assumption)
   ·clear hC17
    try simp at hc17
    refine swp_skip ?_
    try simp only [thn, inBlk]
    refine hK12 _ ?_; clear hK12
    refine swp_region ty_ok ?_
    try simp (maxSteps := 1000000)
    repeat' apply And.intro
    any_goals (try omega)
    refine hL8 _ ⟨[(0, .ro (.rows 1 (xs.map fun w => [PV.ro (.ints .i64 w)]))), (1, .ro (.rows 1 (ys.map fun w => [PV.ro (.ints .i64 w)]))), (5, .int .i64 ((k + 1) : Nat))], [], 0⟩ _ ?_ ⟨(k + 1), by omega, by omega, by (refine lt_step (by assumption) ?_; assumption), rfl, rfl⟩ ⟨by simp [getT, PV.lo, lo1, hkw], by simp [getH, Blk.lo, Cells.lo, lo1], rfl, by omega⟩
    omega
  ·clear hC11
   try simp at hc11
   refine swp_exit ?_
   simp [thn, inBlk]
   refine hK6 _ ?_; clear hK6
   refine swp_seq fun K19 hK19 => ?_
   refine swp_region ty_ok ?_
   try simp (maxSteps := 1000000)
   repeat' (first | apply And.intro | intro _)
   any_goals (first | (refine hK19 _ ?_; clear hK19) | omega | (simp_all <;> omega))
   refine swp_ret ?_
   simp [fnPost, Try.results41, resP, tupOf]
   exact eqs_yes [] (by omega) (by omega) (by assumption)

end Go.Proofs.Ytgheplondkoedaa

