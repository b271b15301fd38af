import Derived.Test.YtgheplondkoedaaWf
import Derived.Test.YtgheplondkoedaaTyh
import Derived.Test.YtgheplondkoedaaHbits
import Derived.Test.YtgheplondkoedaaHbits2
import Derived.Test.YtgheplondkoedaaHsrt
import Derived.Test.YtgheplondkoedaaHbk
import Derived.Test.YtgheplondkoedaaHst
import Derived.Test.YtgheplondkoedaaHbk5
import Derived.Test.YtgheplondkoedaaHbk9
import Derived.Test.YtgheplondkoedaaSca
import Derived.Test.YtgheplondkoedaaSca2
import Derived.Test.YtgheplondkoedaaSca3
import Derived.Test.YtgheplondkoedaaSca4
import Derived.Test.YtgheplondkoedaaSca5
namespace Go.Proofs.Ytgheplondkoedaa
set_option linter.unusedVariables false
set_option linter.unusedSimpArgs false
set_option maxRecDepth 10000
open Go Go.Pv

open Go.RowKit
def o1N (b : List Int) (a : Int × Int) (bk p : Int) : Int := if r1E b a bk p = 0 then r1N b a bk p else 0
def o1P (b : List Int) (a : Int × Int) (bk p : Int) : Int := if r1E b a bk p = 0 then r1P b a bk p else 0
theorem o1_n {b : List Int} {a : Int × Int} {bk p : Int} (h : bk = 13) (h2 : a.2 < 0) : o1N b a bk p = getN b p 9 ∧ o1P b a bk p = getP b p 9 ∧ r1E b a bk p = getE b p 9 := by
 obtain ⟨e1, e2, e3⟩ := r1_n (b := b) (p := p) h h2
 unfold o1N o1P
 rw [e1, e2, e3]
 by_cases he : getE b p 9 = 0
 ·rw [if_pos he, if_pos he]; exact ⟨rfl, rfl, rfl⟩
 ·rw [if_neg he, if_neg he, getN_no he, getP_no he]; exact ⟨rfl, rfl, rfl⟩
theorem st60 {b : List Int} {p : Int} (hb : ∀ k : Nat, 0 ≤ b[k]?.getD 0 ∧ b[k]?.getD 0 ≤ 255) : -60 ≤ stV b p ∧ stV b p ≤ 60 := by
 by_cases h : stE b p = 0
 ·have := (step_got hb h).1
  unfold St60 at this
  exact this
 ·rw [(st_err h).2.2.1]
  omega
theorem stP_bd {b : List Int} {p : Int} (hb : ∀ k : Nat, 0 ≤ b[k]?.getD 0 ∧ b[k]?.getD 0 ≤ 255) (hl : b.length ≤ 1000000) : 0 ≤ stP b p ∧ stP b p ≤ 1000000 := by
 by_cases h : stE b p = 0
 ·obtain ⟨_, n, h1, h2, h3, _⟩ := step_got hb h
  omega
 ·rw [(st_err h).2.2.2]
  omega
theorem getP_in {b : List Int} {p z : Int} (hb : b.length ≤ 1000000) : 0 ≤ getP b p z ∧ getP b p z ≤ 1000000 := by
 unfold getP
 split
 ·rename_i h
  obtain ⟨h1, h2, h3, h4⟩ := getE_zero h
  omega
 ·omega
theorem r1P_bd {b : List Int} {a : Int × Int} {bk p : Int} (hb : ∀ k : Nat, 0 ≤ b[k]?.getD 0 ∧ b[k]?.getD 0 ≤ 255) (hl : b.length ≤ 1000000) (hp : 0 ≤ p ∧ p ≤ 1000000) : 0 ≤ r1P b a bk p ∧ r1P b a bk p ≤ 1000000 := by
 unfold r1P
 split
 ·exact hp
 ·split
  ·exact getP_in hl
  ·exact stP_bd hb hl
theorem rwP_bd {b bs : List Int} {a : Int × Int} {p : Int} (hb : ∀ k : Nat, 0 ≤ b[k]?.getD 0 ∧ b[k]?.getD 0 ≤ 255) (hl : b.length ≤ 1000000) (hp : 0 ≤ p ∧ p ≤ 1000000) : ∀ k, 0 ≤ (rwS b bs p a k).p ∧ (rwS b bs p a k).p ≤ 1000000
 | 0 => hp
 | k + 1 => by rw [rwS]; exact r1P_bd hb hl (rwP_bd hb hl hp k)
theorem rwA_ok {b bs : List Int} {a : Int × Int} {p : Int} (hb : ∀ y ∈ b, 0 ≤ y ∧ y ≤ 255) (hp : 0 ≤ p ∧ p ≤ b.length) (ha : AOk a) {k : Nat} (h : rwE b bs p a k = 0) : AOk (rwS b bs p a k).a := by
 obtain ⟨h1, h2, _⟩ := rw_ok hb hp k h
 rw [h2]
 exact aN_ok ha k h1
theorem gA_ok {b : List Int} {l : List (List Sc)} {ga p : Int} (hb : ∀ y ∈ b, 0 ≤ y ∧ y ≤ 255) (hp : 0 ≤ p ∧ p ≤ b.length) (hg : 0 ≤ ga ∧ ga ≤ 255) {k : Nat} (h : gE b l ga p k = 0) : AOk (gS b l ga p k).a ∧ 0 ≤ (gS b l ga p k).p ∧ (gS b l ga p k).p ≤ b.length := by
 obtain ⟨h1, h2, h3⟩ := g_ok hb hp k h
 rw [h2]
 exact ⟨gN_ok hg k h1, by have := h3.1; have := h3.2.1; omega, h3.2.2.1⟩
theorem sg_fail {b : List Int} {l : List (List Sc)} {ga p : Int} {k j : Nat} {e : Int} (hk : k < l.length) (hj : j < (RW l k).length) (h1 : gE b l ga p k = 0) (h2 : rwE b (RW l k) (gS b l ga p k).p (gS b l ga p k).a j = 0) (h3 : r1E b (rwS b (RW l k) (gS b l ga p k).p (gS b l ga p k).a j).a ((RW l k)[j]?.getD 0) (rwS b (RW l k) (gS b l ga p k).p (gS b l ga p k).a j).p = e) (h4 : ¬ e = 0) : gE b l ga p l.length = e := by
 have e1 : rwE b (RW l k) (gS b l ga p k).p (gS b l ga p k).a (j + 1) = e := by rw [rwE, if_pos h2, h3]
 have e2 : rwE b (RW l k) (gS b l ga p k).p (gS b l ga p k).a (RW l k).length = e := by rw [rwE_stop (k := j + 1) (by rw [e1]; exact h4) (by omega), e1]
 have e3 : gE b l ga p (k + 1) = e := by rw [gE, if_pos h1, e2]
 rw [gE_stop (k := k + 1) (by rw [e3]; exact h4) (by omega), e3]
def grt20 (l : List (List Int)) : Bool := (l.take 100).any (fun w => decide (500 < w.length)) || decide (100 < l.length)
def grt19 (l : List (List Sc)) : Bool := (l.take 100).any (fun w => decide (200 < w.length)) || decide (100 < l.length)
theorem grt_no {l : List (List Sc)} (h : grt19 l = false) : l.length ≤ 100 ∧ ∀ w ∈ l, w.length ≤ 200 := by
 unfold grt19 at h
 rw [Bool.or_eq_false_iff, decide_eq_false_iff_not, List.any_eq_false] at h
 refine ⟨by omega, fun w hw => ?_⟩
 have := h.1 w (by rw [List.take_of_length_le (by omega)]; exact hw)
 simpa using this
theorem grt_y {l : List (List Sc)} {k : Nat} (hk : k < l.length) (h1 : k < 100) (h : 200 < (l[k]?.getD []).length) : grt19 l = true := by
 unfold grt19
 rw [Bool.or_eq_true]
 refine .inl (List.any_eq_true.2 ⟨l[k]?.getD [], ?_, by simpa using h⟩)
 rw [List.getElem?_eq_getElem hk, Option.getD_some]
 exact List.mem_of_getElem? (i := k) (by rw [List.getElem?_take, if_pos h1, List.getElem?_eq_getElem hk])
theorem grt_e {l : List (List Sc)} {k : Nat} (hk : l.length ≤ k ∨ 100 ≤ k) (h : ∀ j < k, (l[j]?.getD []).length ≤ 200) : grt19 l = decide (100 < l.length) := by
 unfold grt19
 have : (l.take 100).any (fun w => decide (200 < w.length)) = false := by
  rw [List.any_eq_false]
  intro w hw
  obtain ⟨j, hj, rfl⟩ := List.getElem_of_mem hw
  rw [List.length_take] at hj
  have h2 := h j (by omega)
  rw [List.getElem?_eq_getElem (by omega), Option.getD_some] at h2
  rw [List.getElem_take]
  simp
  omega
 rw [this, Bool.false_or]
def grt20x (l : List (List Int)) : Bool := (l.take 100).any (fun w => decide (500 < w.length)) || decide (100 < l.length)
theorem grtI_no {l : List (List Int)} (h : grt20 l = false) : l.length ≤ 100 ∧ ∀ w ∈ l, w.length ≤ 500 := by
 unfold grt20 at h
 rw [Bool.or_eq_false_iff, decide_eq_false_iff_not, List.any_eq_false] at h
 refine ⟨by omega, fun w hw => ?_⟩
 have := h.1 w (by rw [List.take_of_length_le (by omega)]; exact hw)
 simpa using this
theorem grtI_y {l : List (List Int)} {k : Nat} (hk : k < l.length) (h1 : k < 100) (h : 500 < (l[k]?.getD []).length) : grt20 l = true := by
 unfold grt20
 rw [Bool.or_eq_true]
 refine .inl (List.any_eq_true.2 ⟨l[k]?.getD [], ?_, by simpa using h⟩)
 rw [List.getElem?_eq_getElem hk, Option.getD_some]
 exact List.mem_of_getElem? (i := k) (by rw [List.getElem?_take, if_pos h1, List.getElem?_eq_getElem hk])
theorem grtI_e {l : List (List Int)} {k : Nat} (hk : l.length ≤ k ∨ 100 ≤ k) (h : ∀ j < k, (l[j]?.getD []).length ≤ 500) : grt20 l = decide (100 < l.length) := by
 unfold grt20
 have : (l.take 100).any (fun w => decide (500 < w.length)) = false := by
  rw [List.any_eq_false]
  intro w hw
  obtain ⟨j, hj, rfl⟩ := List.getElem_of_mem hw
  rw [List.length_take] at hj
  have h2 := h j (by omega)
  rw [List.getElem?_eq_getElem (by omega), Option.getD_some] at h2
  rw [List.getElem_take]
  simp
  omega
 rw [this, Bool.false_or]

attribute [local simp] runs gd step1 need evu un opnds opv ev cst cst1 cstL getT getH putT onL nxt argT cellsOf PV.one thn inBlk jmp fldP ldP ldC live Cells.len Cells.get Cells.w sug ldv bin eqF eq1 ops2 sh2 binv Tk.agg stC apC rdS apS cpC cpS mvL zp argsP idx fillP toInts chunks mkC ixS ixA oidx slP sl0 slA optL List.append mxF bltn frzA frz frzL frz1 pur1 Cells.pur PV.scal scal1 runD rdO PV.ids id1 zids ety Eff.on cnd minb and1b ifmax ifmin mxv sugI strv w0 w1 w2 wm1
theorem great19_ok (l : List (List Sc)) : PCall Try.prog 31 [.ro (.rows 1 (l.map fun w => [.ro (.rows 2 (w.map Sc.row))]))] (.bool (grt19 l)) := by
 refine pcall_body ty_ok Try.func31 rfl (by rfl) (by simp) ?_
 rw [Try.ntmps31]
 refine swp_seq fun K1 hK1 => ?_
 refine swp_region ty_ok ?_
 try simp (maxSteps := 1000000)
 repeat' (first | apply And.intro | intro _)
 any_goals (first | (refine hK1 _ ?_; clear hK1) | omega | (simp_all <;> omega))
 refine swp_seq fun K2 hK2 => ?_
 refine swp_seq fun K3 hK3 => ?_
 refine swp_region ty_ok ?_
 try simp (maxSteps := 1000000)
 repeat' (first | apply And.intro | intro _)
 any_goals (first | (refine hK3 _ ?_; clear hK3) | omega | (simp_all <;> omega))
 refine swp_block ?_
 refine swp_loop 0 (fun m_ s_ => ∃ (k : Nat), (k ≤ l.length ∧ k ≤ 100) ∧ (∀ j < k, (l[j]?.getD []).length ≤ 200) ∧ s_ = ⟨[(0, .ro (.rows 1 (l.map fun w => [.ro (.rows 2 (w.map Sc.row))]))), (3, .int .i64 (k : Nat))], [], 0⟩ ∧ m_ = 100 - k) _ ⟨[(0, .ro (.rows 1 (l.map fun w => [.ro (.rows 2 (w.map Sc.row))]))), (3, .int .i64 (0 : Nat))], [], 0⟩ ⟨by simp [getT, PV.lo, lo1], by simp [getH, Blk.lo, Cells.lo, lo1], rfl, by omega⟩ ⟨(0), by omega, by simp, rfl, rfl⟩ ?_
 rintro m_ s_ ⟨k, hL4_0, hL4_1, rfl, rfl⟩ KL4 hL4
 have hkw := wnext (i := k) (by omega)
 refine swp_seq fun K5 hK5 => ?_
 refine swp_seq fun K6 hK6 => ?_
 refine swp_region ty_ok ?_
 try simp (maxSteps := 1000000)
 repeat' (first | apply And.intro | intro _)
 any_goals (first | (refine hK6 _ ?_; clear hK6) | omega | (simp_all <;> omega))
 refine swp_if fun C7 hC7 => ?_
 try simp (maxSteps := 1000000)
 refine hC7 _ (fun hc7 => ?_) (fun hc7 => ?_)
 ·clear hC7
  try simp at hc7
  refine swp_skip ?_
  try simp only [thn, inBlk]
  refine hK5 _ ?_; clear hK5
  refine swp_seq fun K8 hK8 => ?_
  refine swp_block ?_
  refine swp_seq fun K9 hK9 => ?_
  have hrow := s_at (l := l) (k := k) (by omega)
  refine swp_region ty_ok ?_
  try simp (maxSteps := 1000000) [hrow]
  repeat' (first | apply And.intro | intro _)
  any_goals (first | (refine hK9 _ ?_; clear hK9) | omega | (simp_all <;> omega))
  refine swp_if fun C10 hC10 => ?_
  try simp (maxSteps := 1000000) [hrow]
  refine hC10 _ (fun hc10 => ?_) (fun hc10 => ?_)
  ·clear hC10
   try simp at hc10
   refine swp_seq fun K11 hK11 => ?_
   refine swp_region ty_ok ?_
   try simp (maxSteps := 1000000)
   repeat' (first | apply And.intro | intro _)
   any_goals (first | (refine hK11 _ ?_; clear hK11) | omega | (simp_all <;> omega))
   refine swp_ret ?_
   simp [fnPost, Try.results31, resP, tupOf]
   exact grt_y (k := k) (by omega) (by omega) (by have h := hc10; omega)
  ·clear hC10
   try simp at hc10
   refine swp_skip ?_
   try simp only [thn, inBlk]
   refine hK8 _ ?_; clear hK8
   refine swp_region ty_ok ?_
   try simp (maxSteps := 1000000)
   repeat' apply And.intro
   any_goals (try omega)
   refine hL4 _ ⟨[(0, .ro (.rows 1 (l.map fun w => [.ro (.rows 2 (w.map Sc.row))]))), (3, .int .i64 ((k + 1) : Nat))], [], 0⟩ _ ?_ ⟨(k + 1), by omega, by (refine lt_step (by assumption) ?_; have h := hc10; omega), rfl, rfl⟩ ⟨by simp [getT, PV.lo, lo1, hkw], by simp [getH, Blk.lo, Cells.lo, lo1], rfl, by omega⟩
   omega
 ·clear hC7
  try simp at hc7
  refine swp_exit ?_
  simp [thn, inBlk]
  refine hK2 _ ?_; clear hK2
  refine swp_seq fun K12 hK12 => ?_
  refine swp_region ty_ok ?_
  try simp (maxSteps := 1000000)
  repeat' (first | apply And.intro | intro _)
  any_goals (first | (refine hK12 _ ?_; clear hK12) | omega | (simp_all <;> omega))
  refine swp_ret ?_
  simp [fnPost, Try.results31, resP, tupOf]
  rw [grt_e (l := l) (k := k) (by have h := hc7; omega) (by assumption)]
  exact decide_eq_decide.2 (by omega)

theorem great20_ok (st : List (List Int)) : PCall Try.prog 32 [.ro (.rows 1 (st.map fun w => [.ro (.ints .i64 w)]))] (.bool (grt20 st)) := by
 refine pcall_body ty_ok Try.func32 rfl (by rfl) (by simp) ?_
 rw [Try.ntmps32]
 refine swp_seq fun K1 hK1 => ?_
 refine swp_region ty_ok ?_
 try simp (maxSteps := 1000000)
 repeat' (first | apply And.intro | intro _)
 any_goals (first | (refine hK1 _ ?_; clear hK1) | omega | (simp_all <;> omega))
 refine swp_seq fun K2 hK2 => ?_
 refine swp_seq fun K3 hK3 => ?_
 refine swp_region ty_ok ?_
 try simp (maxSteps := 1000000)
 repeat' (first | apply And.intro | intro _)
 any_goals (first | (refine hK3 _ ?_; clear hK3) | omega | (simp_all <;> omega))
 refine swp_block ?_
 refine swp_loop 0 (fun m_ s_ => ∃ (k : Nat), (k ≤ st.length ∧ k ≤ 100) ∧ (∀ j < k, (st[j]?.getD []).length ≤ 500) ∧ s_ = ⟨[(0, .ro (.rows 1 (st.map fun w => [.ro (.ints .i64 w)]))), (3, .int .i64 (k : Nat))], [], 0⟩ ∧ m_ = 100 - k) _ ⟨[(0, .ro (.rows 1 (st.map fun w => [.ro (.ints .i64 w)]))), (3, .int .i64 (0 : Nat))], [], 0⟩ ⟨by simp [getT, PV.lo, lo1], by simp [getH, Blk.lo, Cells.lo, lo1], rfl, by omega⟩ ⟨(0), by omega, by simp, rfl, rfl⟩ ?_
 rintro m_ s_ ⟨k, hL4_0, hL4_1, rfl, rfl⟩ KL4 hL4
 have hkw := wnext (i := k) (by omega)
 refine swp_seq fun K5 hK5 => ?_
 refine swp_seq fun K6 hK6 => ?_
 refine swp_region ty_ok ?_
 try simp (maxSteps := 1000000)
 repeat' (first | apply And.intro | intro _)
 any_goals (first | (refine hK6 _ ?_; clear hK6) | omega | (simp_all <;> omega))
 refine swp_if fun C7 hC7 => ?_
 try simp (maxSteps := 1000000)
 refine hC7 _ (fun hc7 => ?_) (fun hc7 => ?_)
 ·clear hC7
  try simp at hc7
  refine swp_skip ?_
  try simp only [thn, inBlk]
  refine hK5 _ ?_; clear hK5
  refine swp_seq fun K8 hK8 => ?_
  refine swp_block ?_
  refine swp_seq fun K9 hK9 => ?_
  have hrow := i_at (l := st) (k := k) (by omega)
  refine swp_region ty_ok ?_
  try simp (maxSteps := 1000000) [hrow]
  repeat' (first | apply And.intro | intro _)
  any_goals (first | (refine hK9 _ ?_; clear hK9) | omega | (simp_all <;> omega))
  refine swp_if fun C10 hC10 => ?_
  try simp (maxSteps := 1000000) [hrow]
  refine hC10 _ (fun hc10 => ?_) (fun hc10 => ?_)
  ·clear hC10
   try simp at hc10
   refine swp_seq fun K11 hK11 => ?_
   refine swp_region ty_ok ?_
   try simp (maxSteps := 1000000)
   repeat' (first | apply And.intro | intro _)
   any_goals (first | (refine hK11 _ ?_; clear hK11) | omega | (simp_all <;> omega))
   refine swp_ret ?_
   simp [fnPost, Try.results32, resP, tupOf]
   exact grtI_y (k := k) (by omega) (by omega) (by have h := hc10; omega)
  ·clear hC10
   try simp at hc10
   refine swp_skip ?_
   try simp only [thn, inBlk]
   refine hK8 _ ?_; clear hK8
   refine swp_region ty_ok ?_
   try simp (maxSteps := 1000000)
   repeat' apply And.intro
   any_goals (try omega)
   refine hL4 _ ⟨[(0, .ro (.rows 1 (st.map fun w => [.ro (.ints .i64 w)]))), (3, .int .i64 ((k + 1) : Nat))], [], 0⟩ _ ?_ ⟨(k + 1), by omega, by (refine lt_step (by assumption) ?_; have h := hc10; omega), rfl, rfl⟩ ⟨by simp [getT, PV.lo, lo1, hkw], by simp [getH, Blk.lo, Cells.lo, lo1], rfl, by omega⟩
   omega
 ·clear hC7
  try simp at hc7
  refine swp_exit ?_
  simp [thn, inBlk]
  refine hK2 _ ?_; clear hK2
  refine swp_seq fun K12 hK12 => ?_
  refine swp_region ty_ok ?_
  try simp (maxSteps := 1000000)
  repeat' (first | apply And.intro | intro _)
  any_goals (first | (refine hK12 _ ?_; clear hK12) | omega | (simp_all <;> omega))
  refine swp_ret ?_
  simp [fnPost, Try.results32, resP, tupOf]
  rw [grtI_e (l := st) (k := k) (by have h := hc7; omega) (by assumption)]
  exact decide_eq_decide.2 (by omega)

set_option maxHeartbeats 2000000 in
theorem rsameI_ok (xs ys : List (List Int)) (hx : xs.length ≤ 1000000) (hw : ∀ w ∈ xs, w.length ≤ 1000000) : PCall Try.prog 41 [.ro (.rows 1 (xs.map fun w => [PV.ro (.ints .i64 w)])), .ro (.rows 1 (ys.map fun w => [PV.ro (.ints .i64 w)]))] (.bool (decide (xs = ys))) := by
 refine pcall_body ty_ok Try.func41 rfl (by rfl) (by simp) ?_
 rw [Try.ntmps41]
 refine swp_seq fun K1 hK1 => ?_
 refine swp_region ty_ok ?_
 try simp (maxSteps := 1000000)
 repeat' (first | apply And.intro | intro _)
 any_goals (first | (refine hK1 _ ?_; clear hK1) | omega | (simp_all <;> omega))
 refine swp_seq fun K2 hK2 => ?_
 refine swp_seq fun K3 hK3 => ?_
 refine swp_region ty_ok ?_
 try simp (maxSteps := 1000000)
 repeat' (first | apply And.intro | intro _)
 any_goals (first | (refine hK3 _ ?_; clear hK3) | omega | (simp_all <;> omega))
 refine swp_if fun C4 hC4 => ?_
 try simp (maxSteps := 1000000)
 refine hC4 _ (fun hc4 => ?_) (fun hc4 => ?_)
 ·clear hC4
  try simp at hc4
  refine swp_seq fun K5 hK5 => ?_
  refine swp_region ty_ok ?_
  try simp (maxSteps := 1000000)
  repeat' (first | apply And.intro | intro _)
  any_goals (first | (refine hK5 _ ?_; clear hK5) | omega | (simp_all <;> omega))
  refine swp_ret ?_
  simp [fnPost, Try.results41, resP, tupOf]
  exact eqs_len (by omega)
 ·clear hC4
  try simp at hc4
  refine swp_skip ?_
  try simp only [thn, inBlk]
  refine hK2 _ ?_; clear hK2
  refine swp_seq fun K6 hK6 => ?_
  refine swp_seq fun K7 hK7 => ?_
  refine swp_region ty_ok ?_
  try simp (maxSteps := 1000000)
  repeat' (first | apply And.intro | intro _)
  any_goals (first | (refine hK7 _ ?_; clear hK7) | omega | (simp_all <;> omega))
  refine swp_block ?_
  refine swp_loop 0 (fun m_ s_ => ∃ (k : Nat), (k ≤ xs.length) ∧ (xs.length = ys.length) ∧ (∀ j < k, xs[j]?.getD [] = ys[j]?.getD []) ∧ s_ = ⟨[(0, .ro (.rows 1 (xs.map fun w => [PV.ro (.ints .i64 w)]))), (1, .ro (.rows 1 (ys.map fun w => [PV.ro (.ints .i64 w)]))), (5, .int .i64 (k : Nat))], [], 0⟩ ∧ m_ = xs.length - k) _ ⟨[(0, .ro (.rows 1 (xs.map fun w => [PV.ro (.ints .i64 w)]))), (1, .ro (.rows 1 (ys.map fun w => [PV.ro (.ints .i64 w)]))), (5, .int .i64 (0 : Nat))], [], 0⟩ ⟨by simp [getT, PV.lo, lo1], by simp [getH, Blk.lo, Cells.lo, lo1], rfl, by omega⟩ ⟨(0), by omega, by omega, by simp, rfl, rfl⟩ ?_
  rintro m_ s_ ⟨k, hL8_0, hL8_1, hL8_2, rfl, rfl⟩ KL8 hL8
  have hkw : IntKind.i64.wrap ((k : Int) + 1) = (((k + 1 : Nat)) : Int) := wnext (by omega)
  refine swp_seq fun K9 hK9 => ?_
  refine swp_seq fun K10 hK10 => ?_
  refine swp_region ty_ok ?_
  try simp (maxSteps := 1000000)
  repeat' (first | apply And.intro | intro _)
  any_goals (first | (refine hK10 _ ?_; clear hK10) | omega | (simp_all <;> omega))
  refine swp_if fun C11 hC11 => ?_
  try simp (maxSteps := 1000000)
  refine hC11 _ (fun hc11 => ?_) (fun hc11 => ?_)
  ·clear hC11
   try simp at hc11
   refine swp_skip ?_
   try simp only [thn, inBlk]
   refine hK9 _ ?_; clear hK9
   refine swp_seq fun K12 hK12 => ?_
   refine swp_block ?_
   refine swp_seq fun K13 hK13 => ?_
   have hra := i_at (l := xs) (k := k) (by omega)
   have hrb := i_at (l := ys) (k := k) (by omega)
   have hwk : (xs[k]?.getD []).length ≤ 1000000 := hw _ (mem_at (w := xs) (j := k) (by omega))
   refine swp_draw ty_ok mixed (ms := [0, 0, 3, 7, 0, 0, 48, 112, 255, 511]) (by kernel_rfl) ?_
   refine runD_cut 8 fun R14 hR14 => ?_
   try simp (maxSteps := 1000000) [hra, hrb, List.take_succ_cons, List.take_zero, List.drop_succ_cons, List.drop_zero]
   repeat' (first | apply And.intro | intro _)
   any_goals (first | (refine hR14 _ _ _ _ ?_; clear hR14) | omega | (simp_all <;> omega))
   refine runD_cut 1 fun R15 hR15 => ?_
   try simp (maxSteps := 1000000) [hra, hrb, List.take_succ_cons, List.take_zero, List.drop_succ_cons, List.drop_zero]
   refine .inl ⟨_, reedpiperef06_Ints_ok (xs[k]?.getD []) (ys[k]?.getD []) (by omega), ?_⟩
   try simp (maxSteps := 1000000) [hra, hrb]
   repeat' (first | apply And.intro | intro _)
   any_goals (first | (refine hR15 _ _ _ _ ?_; clear hR15) | omega | (simp_all <;> omega))
   try simp (maxSteps := 1000000) [hra, hrb, List.take_succ_cons, List.take_zero, List.drop_succ_cons, List.drop_zero]
   repeat' (first | apply And.intro | intro _)
   any_goals (first | kernel_rfl | (refine hK13 _ ?_; clear hK13) | omega | (simp_all <;> omega))
   refine swp_if fun C17 hC17 => ?_
   try simp (maxSteps := 1000000) [hra, hrb]
   refine hC17 _ (fun hc17 => ?_) (fun hc17 => ?_)
   ·clear hC17
    try simp at hc17
    refine swp_seq fun K18 hK18 => ?_
    refine swp_region ty_ok ?_
    try simp (maxSteps := 1000000)
    repeat' (first | apply And.intro | intro _)
    any_goals (first | (refine hK18 _ ?_; clear hK18) | omega | (simp_all <;> omega))
    refine swp_ret ?_
    simp [fnPost, Try.results41, resP, tupOf]
    exact eqs_no [] (k := k) (by assumption)
   ·clear hC17
    try simp at hc17
    refine swp_skip ?_
    try simp only [thn, inBlk]
    refine hK12 _ ?_; clear hK12
    refine swp_region ty_ok ?_
    try simp (maxSteps := 1000000)
    repeat' apply And.intro
    any_goals (try omega)
    refine hL8 _ ⟨[(0, .ro (.rows 1 (xs.map fun w => [PV.ro (.ints .i64 w)]))), (1, .ro (.rows 1 (ys.map fun w => [PV.ro (.ints .i64 w)]))), (5, .int .i64 ((k + 1) : Nat))], [], 0⟩ _ ?_ ⟨(k + 1), by omega, by omega, by (refine lt_step (by assumption) ?_; assumption), rfl, rfl⟩ ⟨by simp [getT, PV.lo, lo1, hkw], by simp [getH, Blk.lo, Cells.lo, lo1], rfl, by omega⟩
    omega
  ·clear hC11
   try simp at hc11
   refine swp_exit ?_
   simp [thn, inBlk]
   refine hK6 _ ?_; clear hK6
   refine swp_seq fun K19 hK19 => ?_
   refine swp_region ty_ok ?_
   try simp (maxSteps := 1000000)
   repeat' (first | apply And.intro | intro _)
   any_goals (first | (refine hK19 _ ?_; clear hK19) | omega | (simp_all <;> omega))
   refine swp_ret ?_
   simp [fnPost, Try.results41, resP, tupOf]
   exact eqs_yes [] (by omega) (by omega) (by assumption)

set_option maxHeartbeats 8000000 in
theorem bits20_ok (ga : Int) (l : List (List Sc)) (st : List (List Int)) (hl : l.length ≤ 8) (hm : ∀ w ∈ l, (∀ x ∈ w, badS x = false) ∧ (w.map Sc.len).sum ≤ 40 ∧ w.length ≤ 40) (hga : 0 ≤ ga ∧ ga ≤ 255) (hle : l.length = st.length) (hog : oG l st ga l.length = true) : PCall Try.prog 77 [.int .i64 ga, .ro (.rows 1 (l.map fun w => [.ro (.rows 2 (w.map Sc.row))])), .ro (.rows 1 (st.map fun w => [.ro (.ints .i64 w)]))] (.ro (.ints .u8 (gB l st ga l.length))) := by
 refine pcall_body ty_ok Try.func77 rfl (by rfl) (by simp) ?_
 rw [Try.ntmps77]
 refine swp_seq fun K1 hK1 => ?_
 refine swp_region ty_ok ?_
 try simp (maxSteps := 1000000)
 repeat' (first | apply And.intro | intro _)
 any_goals (first | (refine hK1 _ ?_; clear hK1) | omega | (simp_all <;> omega))
 refine swp_seq fun K2 hK2 => ?_
 refine swp_region ty_ok ?_
 try simp (maxSteps := 1000000)
 repeat' (first | apply And.intro | intro _)
 any_goals (first | (refine hK2 _ ?_; clear hK2) | omega | (simp_all <;> omega))
 refine swp_seq fun K3 hK3 => ?_
 refine swp_region ty_ok ?_
 try simp (maxSteps := 1000000)
 repeat' (first | apply And.intro | intro _)
 any_goals (first | (refine hK3 _ ?_; clear hK3) | omega | (simp_all <;> omega))
 refine swp_seq fun K4 hK4 => ?_
 refine swp_region ty_ok ?_
 try simp (maxSteps := 1000000)
 repeat' (first | apply And.intro | intro _)
 any_goals (first | (refine hK4 _ ?_; clear hK4) | omega | (simp_all <;> omega))
 refine swp_seq fun K5 hK5 => ?_
 refine swp_seq fun K6 hK6 => ?_
 refine swp_region ty_ok ?_
 try simp (maxSteps := 1000000)
 repeat' (first | apply And.intro | intro _)
 any_goals (first | (refine hK6 _ ?_; clear hK6) | omega | (simp_all <;> omega))
 refine swp_block ?_
 refine swp_own 7 5 (by simp [getT]; rfl) rfl ?_
 refine swp_loop 1 (fun m_ s_ => ∃ (k : Nat), (k ≤ l.length) ∧ s_ = ⟨[(1, .ro (.rows 1 (l.map fun w => [.ro (.rows 2 (w.map Sc.row))]))), (2, .ro (.rows 1 (st.map fun w => [.ro (.ints .i64 w)]))), (7, .sl 0 0 (gB l st ga k).length (gB l st ga k).length), (8, .int .i64 (gN l st ga k).1), (9, .int .i64 (gN l st ga k).2), (10, .int .i64 (k : Nat))], [(0, some ⟨.ints .u8 (gB l st ga k), false, 5⟩)], 1⟩ ∧ m_ = l.length - k) _ ⟨[(1, .ro (.rows 1 (l.map fun w => [.ro (.rows 2 (w.map Sc.row))]))), (2, .ro (.rows 1 (st.map fun w => [.ro (.ints .i64 w)]))), (7, .sl 0 0 (gB l st ga 0).length (gB l st ga 0).length), (8, .int .i64 (gN l st ga 0).1), (9, .int .i64 (gN l st ga 0).2), (10, .int .i64 (0 : Nat))], [(0, some ⟨.ints .u8 (gB l st ga 0), false, 5⟩)], 1⟩ ⟨by simp [getT, PV.lo, lo1, gN, gB], by simp [getH, Blk.lo, Cells.lo, lo1, gB], rfl, by omega⟩ ⟨(0), by omega, rfl, rfl⟩ ?_
 rintro m_ s_ ⟨k, hL7_0, rfl, rfl⟩ KL7 hL7
 have hkw := wnext (i := k) (by omega)
 refine swp_seq fun K8 hK8 => ?_
 refine swp_seq fun K9 hK9 => ?_
 refine swp_region ty_ok ?_
 try simp (maxSteps := 1000000)
 repeat' (first | apply And.intro | intro _)
 any_goals (first | (refine hK9 _ ?_; clear hK9) | omega | (simp_all <;> omega))
 refine swp_if fun C10 hC10 => ?_
 try simp (maxSteps := 1000000)
 refine hC10 _ (fun hc10 => ?_) (fun hc10 => ?_)
 ·clear hC10
  try simp at hc10
  refine swp_skip ?_
  try simp only [thn, inBlk]
  refine hK8 _ ?_; clear hK8
  refine swp_seq fun K11 hK11 => ?_
  refine swp_block ?_
  refine swp_seq fun K12 hK12 => ?_
  have hrowS := s_at (l := l) (k := k) (by omega)
  obtain ⟨hR1, hR2, hR3, hR4⟩ := RW_F (k := k) (by omega) hm
  have hRe : RW l k = bkR (l[k]?.getD []) := rfl
  have hrowT := i_at (l := st) (k := k) (by omega)
  have hgk := gN_ok hga k (oG_mono (by omega) hog)
  obtain ⟨ho1, ho2⟩ := oG_at (k := k) hog (by omega)
  have hgl := gB_len (RW_40 hm) k (oG_mono (by omega) hog)
  refine swp_region ty_ok ?_
  refine runs_cut 4 fun R13 hR13 => ?_
  try simp (maxSteps := 1000000) [hrowS, ← hRe, List.take_succ_cons, List.take_zero, List.drop_succ_cons, List.drop_zero]
  repeat' (first | apply And.intro | intro _)
  any_goals (first | (refine hR13 _ ?_; clear hR13) | omega | (simp_all <;> omega))
  refine runs_cut 1 fun R14 hR14 => ?_
  try simp (maxSteps := 1000000) [hrowS, ← hRe, List.take_succ_cons, List.take_zero, List.drop_succ_cons, List.drop_zero]
  refine .inl ⟨_, books_ok (l[k]?.getD []) hR4 hR3, ?_⟩
  try simp (maxSteps := 1000000) [hrowS, ← hRe]
  repeat' (first | apply And.intro | intro _)
  any_goals (first | (refine hR14 _ ?_; clear hR14) | omega | (simp_all <;> omega))
  try simp (maxSteps := 1000000) [hrowS, ← hRe, List.take_succ_cons, List.take_zero, List.drop_succ_cons, List.drop_zero]
  repeat' (first | apply And.intro | intro _)
  any_goals (first | (refine hK12 _ ?_; clear hK12) | omega | (simp_all <;> omega))
  refine swp_seq fun K15 hK15 => ?_
  refine swp_region ty_ok ?_
  try simp (maxSteps := 1000000)
  repeat' (first | apply And.intro | intro _)
  any_goals (first | (refine hK15 _ ?_; clear hK15) | omega | (simp_all <;> omega))
  refine swp_block ?_
  refine swp_loop 1 (fun m_ s_ => ∃ (j : Nat), (j ≤ (RW l k).length) ∧ s_ = ⟨[(1, .ro (.rows 1 (l.map fun w => [.ro (.rows 2 (w.map Sc.row))]))), (2, .ro (.rows 1 (st.map fun w => [.ro (.ints .i64 w)]))), (7, .sl 0 0 (gB l st ga k ++ rwB (RW l k) (st[k]?.getD []) (gN l st ga k) j).length (gB l st ga k ++ rwB (RW l k) (st[k]?.getD []) (gN l st ga k) j).length), (8, .int .i64 (aN (RW l k) (st[k]?.getD []) (gN l st ga k) j).1), (9, .int .i64 (aN (RW l k) (st[k]?.getD []) (gN l st ga k) j).2), (10, .int .i64 (k : Nat)), (11, .ro (.ints .i64 (RW l k))), (12, .int .i64 (j : Nat))], [(0, some ⟨.ints .u8 (gB l st ga k ++ rwB (RW l k) (st[k]?.getD []) (gN l st ga k) j), false, 5⟩)], 1⟩ ∧ m_ = (RW l k).length - j) _ ⟨[(1, .ro (.rows 1 (l.map fun w => [.ro (.rows 2 (w.map Sc.row))]))), (2, .ro (.rows 1 (st.map fun w => [.ro (.ints .i64 w)]))), (7, .sl 0 0 (gB l st ga k ++ rwB (RW l k) (st[k]?.getD []) (gN l st ga k) 0).length (gB l st ga k ++ rwB (RW l k) (st[k]?.getD []) (gN l st ga k) 0).length), (8, .int .i64 (aN (RW l k) (st[k]?.getD []) (gN l st ga k) 0).1), (9, .int .i64 (aN (RW l k) (st[k]?.getD []) (gN l st ga k) 0).2), (10, .int .i64 (k : Nat)), (11, .ro (.ints .i64 (RW l k))), (12, .int .i64 (0 : Nat))], [(0, some ⟨.ints .u8 (gB l st ga k ++ rwB (RW l k) (st[k]?.getD []) (gN l st ga k) 0), false, 5⟩)], 1⟩ ⟨by simp [getT, PV.lo, lo1, aN, rwB], by simp [getH, Blk.lo, Cells.lo, lo1, rwB], rfl, by omega⟩ ⟨(0), by omega, rfl, rfl⟩ ?_
  rintro m_ s_ ⟨j, hL16_0, rfl, rfl⟩ KL16 hL16
  have hjw := wnext (i := j) (by omega)
  refine swp_seq fun K17 hK17 => ?_
  refine swp_seq fun K18 hK18 => ?_
  refine swp_region ty_ok ?_
  try simp (maxSteps := 1000000)
  repeat' (first | apply And.intro | intro _)
  any_goals (first | (refine hK18 _ ?_; clear hK18) | omega | (simp_all <;> omega))
  refine swp_if fun C19 hC19 => ?_
  try simp (maxSteps := 1000000)
  refine hC19 _ (fun hc19 => ?_) (fun hc19 => ?_)
  ·clear hC19
   try simp at hc19
   refine swp_skip ?_
   try simp only [thn, inBlk]
   refine hK17 _ ?_; clear hK17
   refine swp_seq fun K20 hK20 => ?_
   refine swp_block ?_
   refine swp_seq fun K21 hK21 => ?_
   have hBv := hR2 j
   have hbd := oN_at ho2 (k := j) (by omega)
   have hI := bd_iff.1 hbd
   have hYo := aN_ok hgk j (oN_mono (by omega) ho2)
   unfold AOk at hYo
   have hrl := rwB_len j (oN_mono (by omega) ho2)
   refine swp_region ty_ok ?_
   try simp (maxSteps := 1000000) [hrowT]
   repeat' (first | apply And.intro | intro _)
   any_goals (first | (refine hK21 _ ?_; clear hK21) | omega | (simp_all <;> omega))
   refine swp_seq fun K22 hK22 => ?_
   refine swp_region ty_ok ?_
   try simp (maxSteps := 1000000)
   repeat' (first | apply And.intro | intro _)
   any_goals (first | (refine hK22 _ ?_; clear hK22) | omega | (simp_all <;> omega))
   refine swp_if fun C23 hC23 => ?_
   try simp (maxSteps := 1000000)
   refine hC23 _ (fun hc23 => ?_) (fun hc23 => ?_)
   ·clear hC23
    try simp at hc23
    refine swp_seq fun K24 hK24 => ?_
    have hb9 := bitsOf_len ((st[k]?.getD [])[j]?.getD 0).toNat 9
    refine swp_region ty_ok ?_
    refine runs_cut 2 fun R25 hR25 => ?_
    try simp (maxSteps := 1000000) [List.take_succ_cons, List.take_zero, List.drop_succ_cons, List.drop_zero]
    repeat' (first | apply And.intro | intro _)
    any_goals (first | (refine hR25 _ ?_; clear hR25) | omega | (simp_all <;> omega))
    refine runs_cut 1 fun R26 hR26 => ?_
    try simp (maxSteps := 1000000) [List.take_succ_cons, List.take_zero, List.drop_succ_cons, List.drop_zero]
    refine .inl ⟨_, (by have h := rbits_ok ((st[k]?.getD [])[j]?.getD 0).toNat 9 (by omega) (by omega); rw [Int.toNat_of_nonneg (by omega)] at h; exact h), ?_⟩
    try simp (maxSteps := 1000000)
    repeat' (first | apply And.intro | intro _)
    any_goals (first | (refine hR26 _ ?_; clear hR26) | omega | (simp_all <;> omega))
    try simp (maxSteps := 1000000) [List.take_succ_cons, List.take_zero, List.drop_succ_cons, List.drop_zero]
    repeat' (first | apply And.intro | intro _)
    any_goals (first | (refine hK24 _ ?_; clear hK24) | omega | (simp_all <;> omega))
    refine swp_region ty_ok ?_
    try simp (maxSteps := 1000000)
    repeat' (first | apply And.intro | intro _)
    any_goals (first | (refine hK20 _ ?_; clear hK20) | omega | (simp_all <;> omega))
    first | (have hbe := bdL_n (a := (aN (RW l k) (st[k]?.getD []) (gN l st ga k) j)) (b := ((RW l k)[j]?.getD 0)) (n := ((st[k]?.getD [])[j]?.getD 0)) (by omega) (by omega); have hbn : bdN (aN (RW l k) (st[k]?.getD []) (gN l st ga k) j) ((RW l k)[j]?.getD 0) ((st[k]?.getD [])[j]?.getD 0) = ((aN (RW l k) (st[k]?.getD []) (gN l st ga k) j).1, ((st[k]?.getD [])[j]?.getD 0)) := (by rw [bdN_n0 (by omega), tkN_13 (by omega)])) | (have hbe := bdL_13 (a := (aN (RW l k) (st[k]?.getD []) (gN l st ga k) j)) (b := ((RW l k)[j]?.getD 0)) (n := ((st[k]?.getD [])[j]?.getD 0)) (by omega) (by omega); have hbn : bdN (aN (RW l k) (st[k]?.getD []) (gN l st ga k) j) ((RW l k)[j]?.getD 0) ((st[k]?.getD [])[j]?.getD 0) = ((aN (RW l k) (st[k]?.getD []) (gN l st ga k) j).1, ((st[k]?.getD [])[j]?.getD 0)) := (by rw [bdN_n0 (by omega), tkN_13 (by omega)])) | (have hbe := bdL_s (a := (aN (RW l k) (st[k]?.getD []) (gN l st ga k) j)) (b := ((RW l k)[j]?.getD 0)) (n := ((st[k]?.getD [])[j]?.getD 0)) (by omega) (by omega); have hbn : bdN (aN (RW l k) (st[k]?.getD []) (gN l st ga k) j) ((RW l k)[j]?.getD 0) ((st[k]?.getD [])[j]?.getD 0) = (((st[k]?.getD [])[j]?.getD 0), (aN (RW l k) (st[k]?.getD []) (gN l st ga k) j).2) := (by rw [bdN_n0 (by omega), tkN_n (by omega)])) | (have hbe := bdL_0 (a := (aN (RW l k) (st[k]?.getD []) (gN l st ga k) j)) (b := ((RW l k)[j]?.getD 0)) (n := ((st[k]?.getD [])[j]?.getD 0)) (by omega); have hbn : bdN (aN (RW l k) (st[k]?.getD []) (gN l st ga k) j) ((RW l k)[j]?.getD 0) ((st[k]?.getD [])[j]?.getD 0) = (aN (RW l k) (st[k]?.getD []) (gN l st ga k) j) := bdN_00 (by omega))
    refine swp_region ty_ok ?_
    try simp (maxSteps := 1000000)
    repeat' apply And.intro
    any_goals (try omega)
    refine hL16 _ ⟨[(1, .ro (.rows 1 (l.map fun w => [.ro (.rows 2 (w.map Sc.row))]))), (2, .ro (.rows 1 (st.map fun w => [.ro (.ints .i64 w)]))), (7, .sl 0 0 (gB l st ga k ++ rwB (RW l k) (st[k]?.getD []) (gN l st ga k) (j + 1)).length (gB l st ga k ++ rwB (RW l k) (st[k]?.getD []) (gN l st ga k) (j + 1)).length), (8, .int .i64 (aN (RW l k) (st[k]?.getD []) (gN l st ga k) (j + 1)).1), (9, .int .i64 (aN (RW l k) (st[k]?.getD []) (gN l st ga k) (j + 1)).2), (10, .int .i64 (k : Nat)), (11, .ro (.ints .i64 (RW l k))), (12, .int .i64 ((j + 1) : Nat))], [(0, some ⟨.ints .u8 (gB l st ga k ++ rwB (RW l k) (st[k]?.getD []) (gN l st ga k) (j + 1)), false, 5⟩)], 1⟩ _ ?_ ⟨(j + 1), by omega, rfl, rfl⟩ ⟨by (simp [getT, PV.lo, lo1, hjw, aN, rwB, hbe, hbn]; try omega), by simp [getH, Blk.lo, Cells.lo, lo1, rwB, hbe], rfl, by omega⟩
    omega
   ·clear hC23
    try simp at hc23
    refine swp_seq fun K27 hK27 => ?_
    refine swp_region ty_ok ?_
    try simp (maxSteps := 1000000)
    repeat' (first | apply And.intro | intro _)
    any_goals (first | (refine hK27 _ ?_; clear hK27) | omega | (simp_all <;> omega))
    refine swp_if fun C28 hC28 => ?_
    try simp (maxSteps := 1000000)
    refine hC28 _ (fun hc28 => ?_) (fun hc28 => ?_)
    ·clear hC28
     try simp at hc28
     refine swp_seq fun K29 hK29 => ?_
     have hsub : IntKind.i64.wrap (((st[k]?.getD [])[j]?.getD 0) - (aN (RW l k) (st[k]?.getD []) (gN l st ga k) j).2) = ((st[k]?.getD [])[j]?.getD 0) - (aN (RW l k) (st[k]?.getD []) (gN l st ga k) j).2 := w64 (by omega)
     have hsl := stepL_len (d := ((st[k]?.getD [])[j]?.getD 0) - (aN (RW l k) (st[k]?.getD []) (gN l st ga k) j).2) (by unfold St60; omega)
     refine swp_region ty_ok ?_
     refine runs_cut 4 fun R30 hR30 => ?_
     try simp (maxSteps := 1000000) [hsub, List.take_succ_cons, List.take_zero, List.drop_succ_cons, List.drop_zero]
     repeat' (first | apply And.intro | intro _)
     any_goals (first | (refine hR30 _ ?_; clear hR30) | omega | (simp_all <;> omega))
     refine runs_cut 1 fun R31 hR31 => ?_
     try simp (maxSteps := 1000000) [hsub, List.take_succ_cons, List.take_zero, List.drop_succ_cons, List.drop_zero]
     refine .inl ⟨_, stepbits_ok (((st[k]?.getD [])[j]?.getD 0) - (aN (RW l k) (st[k]?.getD []) (gN l st ga k) j).2) (by unfold St60; omega), ?_⟩
     try simp (maxSteps := 1000000) [hsub]
     repeat' (first | apply And.intro | intro _)
     any_goals (first | (refine hR31 _ ?_; clear hR31) | omega | (simp_all <;> omega))
     try simp (maxSteps := 1000000) [hsub, List.take_succ_cons, List.take_zero, List.drop_succ_cons, List.drop_zero]
     repeat' (first | apply And.intro | intro _)
     any_goals (first | (refine hK29 _ ?_; clear hK29) | omega | (simp_all <;> omega))
     refine swp_region ty_ok ?_
     try simp (maxSteps := 1000000)
     repeat' (first | apply And.intro | intro _)
     any_goals (first | (refine hK20 _ ?_; clear hK20) | omega | (simp_all <;> omega))
     first | (have hbe := bdL_n (a := (aN (RW l k) (st[k]?.getD []) (gN l st ga k) j)) (b := ((RW l k)[j]?.getD 0)) (n := ((st[k]?.getD [])[j]?.getD 0)) (by omega) (by omega); have hbn : bdN (aN (RW l k) (st[k]?.getD []) (gN l st ga k) j) ((RW l k)[j]?.getD 0) ((st[k]?.getD [])[j]?.getD 0) = ((aN (RW l k) (st[k]?.getD []) (gN l st ga k) j).1, ((st[k]?.getD [])[j]?.getD 0)) := (by rw [bdN_n0 (by omega), tkN_13 (by omega)])) | (have hbe := bdL_13 (a := (aN (RW l k) (st[k]?.getD []) (gN l st ga k) j)) (b := ((RW l k)[j]?.getD 0)) (n := ((st[k]?.getD [])[j]?.getD 0)) (by omega) (by omega); have hbn : bdN (aN (RW l k) (st[k]?.getD []) (gN l st ga k) j) ((RW l k)[j]?.getD 0) ((st[k]?.getD [])[j]?.getD 0) = ((aN (RW l k) (st[k]?.getD []) (gN l st ga k) j).1, ((st[k]?.getD [])[j]?.getD 0)) := (by rw [bdN_n0 (by omega), tkN_13 (by omega)])) | (have hbe := bdL_s (a := (aN (RW l k) (st[k]?.getD []) (gN l st ga k) j)) (b := ((RW l k)[j]?.getD 0)) (n := ((st[k]?.getD [])[j]?.getD 0)) (by omega) (by omega); have hbn : bdN (aN (RW l k) (st[k]?.getD []) (gN l st ga k) j) ((RW l k)[j]?.getD 0) ((st[k]?.getD [])[j]?.getD 0) = (((st[k]?.getD [])[j]?.getD 0), (aN (RW l k) (st[k]?.getD []) (gN l st ga k) j).2) := (by rw [bdN_n0 (by omega), tkN_n (by omega)])) | (have hbe := bdL_0 (a := (aN (RW l k) (st[k]?.getD []) (gN l st ga k) j)) (b := ((RW l k)[j]?.getD 0)) (n := ((st[k]?.getD [])[j]?.getD 0)) (by omega); have hbn : bdN (aN (RW l k) (st[k]?.getD []) (gN l st ga k) j) ((RW l k)[j]?.getD 0) ((st[k]?.getD [])[j]?.getD 0) = (aN (RW l k) (st[k]?.getD []) (gN l st ga k) j) := bdN_00 (by omega))
     refine swp_region ty_ok ?_
     try simp (maxSteps := 1000000)
     repeat' apply And.intro
     any_goals (try omega)
     refine hL16 _ ⟨[(1, .ro (.rows 1 (l.map fun w => [.ro (.rows 2 (w.map Sc.row))]))), (2, .ro (.rows 1 (st.map fun w => [.ro (.ints .i64 w)]))), (7, .sl 0 0 (gB l st ga k ++ rwB (RW l k) (st[k]?.getD []) (gN l st ga k) (j + 1)).length (gB l st ga k ++ rwB (RW l k) (st[k]?.getD []) (gN l st ga k) (j + 1)).length), (8, .int .i64 (aN (RW l k) (st[k]?.getD []) (gN l st ga k) (j + 1)).1), (9, .int .i64 (aN (RW l k) (st[k]?.getD []) (gN l st ga k) (j + 1)).2), (10, .int .i64 (k : Nat)), (11, .ro (.ints .i64 (RW l k))), (12, .int .i64 ((j + 1) : Nat))], [(0, some ⟨.ints .u8 (gB l st ga k ++ rwB (RW l k) (st[k]?.getD []) (gN l st ga k) (j + 1)), false, 5⟩)], 1⟩ _ ?_ ⟨(j + 1), by omega, rfl, rfl⟩ ⟨by (simp [getT, PV.lo, lo1, hjw, aN, rwB, hbe, hbn]; try omega), by simp [getH, Blk.lo, Cells.lo, lo1, rwB, hbe], rfl, by omega⟩
     omega
    ·clear hC28
     try simp at hc28
     refine swp_seq fun K32 hK32 => ?_
     refine swp_region ty_ok ?_
     try simp (maxSteps := 1000000)
     repeat' (first | apply And.intro | intro _)
     any_goals (first | (refine hK32 _ ?_; clear hK32) | omega | (simp_all <;> omega))
     refine swp_if fun C33 hC33 => ?_
     try simp (maxSteps := 1000000)
     refine hC33 _ (fun hc33 => ?_) (fun hc33 => ?_)
     ·clear hC33
      try simp at hc33
      refine swp_seq fun K34 hK34 => ?_
      have hsub : IntKind.i64.wrap (((st[k]?.getD [])[j]?.getD 0) - (aN (RW l k) (st[k]?.getD []) (gN l st ga k) j).1) = ((st[k]?.getD [])[j]?.getD 0) - (aN (RW l k) (st[k]?.getD []) (gN l st ga k) j).1 := w64 (by omega)
      have hsl := stepL_len (d := ((st[k]?.getD [])[j]?.getD 0) - (aN (RW l k) (st[k]?.getD []) (gN l st ga k) j).1) (by unfold St60; omega)
      refine swp_region ty_ok ?_
      refine runs_cut 4 fun R35 hR35 => ?_
      try simp (maxSteps := 1000000) [hsub, List.take_succ_cons, List.take_zero, List.drop_succ_cons, List.drop_zero]
      repeat' (first | apply And.intro | intro _)
      any_goals (first | (refine hR35 _ ?_; clear hR35) | omega | (simp_all <;> omega))
      refine runs_cut 1 fun R36 hR36 => ?_
      try simp (maxSteps := 1000000) [hsub, List.take_succ_cons, List.take_zero, List.drop_succ_cons, List.drop_zero]
      refine .inl ⟨_, stepbits_ok (((st[k]?.getD [])[j]?.getD 0) - (aN (RW l k) (st[k]?.getD []) (gN l st ga k) j).1) (by unfold St60; omega), ?_⟩
      try simp (maxSteps := 1000000) [hsub]
      repeat' (first | apply And.intro | intro _)
      any_goals (first | (refine hR36 _ ?_; clear hR36) | omega | (simp_all <;> omega))
      try simp (maxSteps := 1000000) [hsub, List.take_succ_cons, List.take_zero, List.drop_succ_cons, List.drop_zero]
      repeat' (first | apply And.intro | intro _)
      any_goals (first | (refine hK34 _ ?_; clear hK34) | omega | (simp_all <;> omega))
      refine swp_region ty_ok ?_
      try simp (maxSteps := 1000000)
      repeat' (first | apply And.intro | intro _)
      any_goals (first | (refine hK20 _ ?_; clear hK20) | omega | (simp_all <;> omega))
      first | (have hbe := bdL_n (a := (aN (RW l k) (st[k]?.getD []) (gN l st ga k) j)) (b := ((RW l k)[j]?.getD 0)) (n := ((st[k]?.getD [])[j]?.getD 0)) (by omega) (by omega); have hbn : bdN (aN (RW l k) (st[k]?.getD []) (gN l st ga k) j) ((RW l k)[j]?.getD 0) ((st[k]?.getD [])[j]?.getD 0) = ((aN (RW l k) (st[k]?.getD []) (gN l st ga k) j).1, ((st[k]?.getD [])[j]?.getD 0)) := (by rw [bdN_n0 (by omega), tkN_13 (by omega)])) | (have hbe := bdL_13 (a := (aN (RW l k) (st[k]?.getD []) (gN l st ga k) j)) (b := ((RW l k)[j]?.getD 0)) (n := ((st[k]?.getD [])[j]?.getD 0)) (by omega) (by omega); have hbn : bdN (aN (RW l k) (st[k]?.getD []) (gN l st ga k) j) ((RW l k)[j]?.getD 0) ((st[k]?.getD [])[j]?.getD 0) = ((aN (RW l k) (st[k]?.getD []) (gN l st ga k) j).1, ((st[k]?.getD [])[j]?.getD 0)) := (by rw [bdN_n0 (by omega), tkN_13 (by omega)])) | (have hbe := bdL_s (a := (aN (RW l k) (st[k]?.getD []) (gN l st ga k) j)) (b := ((RW l k)[j]?.getD 0)) (n := ((st[k]?.getD [])[j]?.getD 0)) (by omega) (by omega); have hbn : bdN (aN (RW l k) (st[k]?.getD []) (gN l st ga k) j) ((RW l k)[j]?.getD 0) ((st[k]?.getD [])[j]?.getD 0) = (((st[k]?.getD [])[j]?.getD 0), (aN (RW l k) (st[k]?.getD []) (gN l st ga k) j).2) := (by rw [bdN_n0 (by omega), tkN_n (by omega)])) | (have hbe := bdL_0 (a := (aN (RW l k) (st[k]?.getD []) (gN l st ga k) j)) (b := ((RW l k)[j]?.getD 0)) (n := ((st[k]?.getD [])[j]?.getD 0)) (by omega); have hbn : bdN (aN (RW l k) (st[k]?.getD []) (gN l st ga k) j) ((RW l k)[j]?.getD 0) ((st[k]?.getD [])[j]?.getD 0) = (aN (RW l k) (st[k]?.getD []) (gN l st ga k) j) := bdN_00 (by omega))
      refine swp_region ty_ok ?_
      try simp (maxSteps := 1000000)
      repeat' apply And.intro
      any_goals (try omega)
      refine hL16 _ ⟨[(1, .ro (.rows 1 (l.map fun w => [.ro (.rows 2 (w.map Sc.row))]))), (2, .ro (.rows 1 (st.map fun w => [.ro (.ints .i64 w)]))), (7, .sl 0 0 (gB l st ga k ++ rwB (RW l k) (st[k]?.getD []) (gN l st ga k) (j + 1)).length (gB l st ga k ++ rwB (RW l k) (st[k]?.getD []) (gN l st ga k) (j + 1)).length), (8, .int .i64 (aN (RW l k) (st[k]?.getD []) (gN l st ga k) (j + 1)).1), (9, .int .i64 (aN (RW l k) (st[k]?.getD []) (gN l st ga k) (j + 1)).2), (10, .int .i64 (k : Nat)), (11, .ro (.ints .i64 (RW l k))), (12, .int .i64 ((j + 1) : Nat))], [(0, some ⟨.ints .u8 (gB l st ga k ++ rwB (RW l k) (st[k]?.getD []) (gN l st ga k) (j + 1)), false, 5⟩)], 1⟩ _ ?_ ⟨(j + 1), by omega, rfl, rfl⟩ ⟨by (simp [getT, PV.lo, lo1, hjw, aN, rwB, hbe, hbn]; try omega), by simp [getH, Blk.lo, Cells.lo, lo1, rwB, hbe], rfl, by omega⟩
      omega
     ·clear hC33
      try simp at hc33
      refine swp_skip ?_
      try simp only [thn, inBlk]
      refine hK20 _ ?_; clear hK20
      first | (have hbe := bdL_n (a := (aN (RW l k) (st[k]?.getD []) (gN l st ga k) j)) (b := ((RW l k)[j]?.getD 0)) (n := ((st[k]?.getD [])[j]?.getD 0)) (by omega) (by omega); have hbn : bdN (aN (RW l k) (st[k]?.getD []) (gN l st ga k) j) ((RW l k)[j]?.getD 0) ((st[k]?.getD [])[j]?.getD 0) = ((aN (RW l k) (st[k]?.getD []) (gN l st ga k) j).1, ((st[k]?.getD [])[j]?.getD 0)) := (by rw [bdN_n0 (by omega), tkN_13 (by omega)])) | (have hbe := bdL_13 (a := (aN (RW l k) (st[k]?.getD []) (gN l st ga k) j)) (b := ((RW l k)[j]?.getD 0)) (n := ((st[k]?.getD [])[j]?.getD 0)) (by omega) (by omega); have hbn : bdN (aN (RW l k) (st[k]?.getD []) (gN l st ga k) j) ((RW l k)[j]?.getD 0) ((st[k]?.getD [])[j]?.getD 0) = ((aN (RW l k) (st[k]?.getD []) (gN l st ga k) j).1, ((st[k]?.getD [])[j]?.getD 0)) := (by rw [bdN_n0 (by omega), tkN_13 (by omega)])) | (have hbe := bdL_s (a := (aN (RW l k) (st[k]?.getD []) (gN l st ga k) j)) (b := ((RW l k)[j]?.getD 0)) (n := ((st[k]?.getD [])[j]?.getD 0)) (by omega) (by omega); have hbn : bdN (aN (RW l k) (st[k]?.getD []) (gN l st ga k) j) ((RW l k)[j]?.getD 0) ((st[k]?.getD [])[j]?.getD 0) = (((st[k]?.getD [])[j]?.getD 0), (aN (RW l k) (st[k]?.getD []) (gN l st ga k) j).2) := (by rw [bdN_n0 (by omega), tkN_n (by omega)])) | (have hbe := bdL_0 (a := (aN (RW l k) (st[k]?.getD []) (gN l st ga k) j)) (b := ((RW l k)[j]?.getD 0)) (n := ((st[k]?.getD [])[j]?.getD 0)) (by omega); have hbn : bdN (aN (RW l k) (st[k]?.getD []) (gN l st ga k) j) ((RW l k)[j]?.getD 0) ((st[k]?.getD [])[j]?.getD 0) = (aN (RW l k) (st[k]?.getD []) (gN l st ga k) j) := bdN_00 (by omega))
      refine swp_region ty_ok ?_
      try simp (maxSteps := 1000000)
      repeat' apply And.intro
      any_goals (try omega)
      refine hL16 _ ⟨[(1, .ro (.rows 1 (l.map fun w => [.ro (.rows 2 (w.map Sc.row))]))), (2, .ro (.rows 1 (st.map fun w => [.ro (.ints .i64 w)]))), (7, .sl 0 0 (gB l st ga k ++ rwB (RW l k) (st[k]?.getD []) (gN l st ga k) (j + 1)).length (gB l st ga k ++ rwB (RW l k) (st[k]?.getD []) (gN l st ga k) (j + 1)).length), (8, .int .i64 (aN (RW l k) (st[k]?.getD []) (gN l st ga k) (j + 1)).1), (9, .int .i64 (aN (RW l k) (st[k]?.getD []) (gN l st ga k) (j + 1)).2), (10, .int .i64 (k : Nat)), (11, .ro (.ints .i64 (RW l k))), (12, .int .i64 ((j + 1) : Nat))], [(0, some ⟨.ints .u8 (gB l st ga k ++ rwB (RW l k) (st[k]?.getD []) (gN l st ga k) (j + 1)), false, 5⟩)], 1⟩ _ ?_ ⟨(j + 1), by omega, rfl, rfl⟩ ⟨by (simp [getT, PV.lo, lo1, hjw, aN, rwB, hbe, hbn]; try omega), by simp [getH, Blk.lo, Cells.lo, lo1, rwB, hbe], rfl, by omega⟩
      omega
  ·clear hC19
   try simp at hc19
   refine swp_exit ?_
   simp [thn, inBlk]
   refine hK11 _ ?_; clear hK11
   refine swp_region ty_ok ?_
   try simp (maxSteps := 1000000)
   repeat' apply And.intro
   any_goals (try omega)
   refine hL7 _ ⟨[(1, .ro (.rows 1 (l.map fun w => [.ro (.rows 2 (w.map Sc.row))]))), (2, .ro (.rows 1 (st.map fun w => [.ro (.ints .i64 w)]))), (7, .sl 0 0 (gB l st ga (k + 1)).length (gB l st ga (k + 1)).length), (8, .int .i64 (gN l st ga (k + 1)).1), (9, .int .i64 (gN l st ga (k + 1)).2), (10, .int .i64 ((k + 1) : Nat))], [(0, some ⟨.ints .u8 (gB l st ga (k + 1)), false, 5⟩)], 1⟩ _ ?_ ⟨(k + 1), by omega, rfl, rfl⟩ ⟨by (have hje : j = (RW l k).length := (by omega); subst hje; simp [getT, PV.lo, lo1, hkw, gN, gB]), by (have hje : j = (RW l k).length := (by omega); subst hje; simp [getH, Blk.lo, Cells.lo, lo1, gB]), rfl, by omega⟩
   omega
 ·clear hC10
  try simp at hc10
  refine swp_exit ?_
  simp [thn, inBlk]
  refine hK5 _ ?_; clear hK5
  refine swp_seq fun K37 hK37 => ?_
  refine swp_region ty_ok ?_
  try simp (maxSteps := 1000000)
  repeat' (first | apply And.intro | intro _)
  any_goals (first | (refine hK37 _ ?_; clear hK37) | omega | (simp_all <;> omega))
  refine swp_ret ?_
  simp [fnPost, Try.results77, resP, tupOf]
  rw [show k = l.length by omega]

theorem rput20_ok (bs : List Int) (ga : Int) (l : List (List Sc)) (st : List (List Int)) (hb : bs.length ≤ 200000) (hl : l.length ≤ 1000000) (hw : ∀ w ∈ l, w.length ≤ 1000000) (hst : st.length ≤ 1000000) : PCall Try.prog 37 [.ro (.ints .u8 bs), .int .i64 ga, .ro (.rows 1 (l.map fun w => [.ro (.rows 2 (w.map Sc.row))])), .ro (.rows 1 (st.map fun w => [.ro (.ints .i64 w)]))] (.tup [.ro (.ints .u8 (if chS ga l st = 0 then bs ++ gB l st ga l.length else [])), .int .i64 (chS ga l st)]) := by
 refine pcall_body ty_ok Try.func37 rfl (by rfl) (by simp) ?_
 rw [Try.ntmps37]
 refine swp_seq fun K1 hK1 => ?_
 refine swp_region ty_ok ?_
 try simp (maxSteps := 1000000)
 repeat' (first | apply And.intro | intro _)
 any_goals (first | (refine hK1 _ ?_; clear hK1) | omega | (simp_all <;> omega))
 refine swp_seq fun K2 hK2 => ?_
 refine swp_region ty_ok ?_
 refine runs_cut 3 fun R3 hR3 => ?_
 try simp (maxSteps := 1000000) [List.take_succ_cons, List.take_zero, List.drop_succ_cons, List.drop_zero]
 repeat' (first | apply And.intro | intro _)
 any_goals (first | (refine hR3 _ ?_; clear hR3) | omega | (simp_all <;> omega))
 refine runs_cut 1 fun R4 hR4 => ?_
 try simp (maxSteps := 1000000) [List.take_succ_cons, List.take_zero, List.drop_succ_cons, List.drop_zero]
 refine .inl ⟨_, rcheck20_ok ga l st hl hw hst, ?_⟩
 try simp (maxSteps := 1000000)
 repeat' (first | apply And.intro | intro _)
 any_goals (first | (refine hR4 _ ?_; clear hR4) | omega | (simp_all <;> omega))
 try simp (maxSteps := 1000000) [List.take_succ_cons, List.take_zero, List.drop_succ_cons, List.drop_zero]
 repeat' (first | apply And.intro | intro _)
 any_goals (first | (refine hK2 _ ?_; clear hK2) | omega | (simp_all <;> omega))
 refine swp_seq fun K5 hK5 => ?_
 refine swp_seq fun K6 hK6 => ?_
 refine swp_region ty_ok ?_
 try simp (maxSteps := 1000000)
 repeat' (first | apply And.intro | intro _)
 any_goals (first | (refine hK6 _ ?_; clear hK6) | omega | (simp_all <;> omega))
 refine swp_if fun C7 hC7 => ?_
 try simp (maxSteps := 1000000)
 refine hC7 _ (fun hc7 => ?_) (fun hc7 => ?_)
 ·clear hC7
  try simp at hc7
  refine swp_seq fun K8 hK8 => ?_
  refine swp_region ty_ok ?_
  try simp (maxSteps := 1000000)
  repeat' (first | apply And.intro | intro _)
  any_goals (first | (refine hK8 _ ?_; clear hK8) | omega | (simp_all <;> omega))
  refine swp_ret ?_
  simp [fnPost, Try.results37, resP, tupOf]
  exact fun h => absurd h (by assumption)
 ·clear hC7
  try simp at hc7
  refine swp_skip ?_
  try simp only [thn, inBlk]
  refine hK5 _ ?_; clear hK5
  refine swp_seq fun K9 hK9 => ?_
  have hz0 := (by assumption : chS ga l st = 0)
  obtain ⟨hmg, hle, hog⟩ := chS_ok hz0
  obtain ⟨hga, hmm⟩ := mayG_true hmg
  have hgl := gB_len (RW_40 hmm) l.length hog
  refine swp_region ty_ok ?_
  try simp (maxSteps := 1000000)
  repeat' (first | apply And.intro | intro _)
  any_goals (first | (refine hK9 _ ?_; clear hK9) | omega | (simp_all <;> omega))
  refine swp_seq fun K10 hK10 => ?_
  refine swp_region ty_ok ?_
  try simp (maxSteps := 1000000)
  repeat' (first | apply And.intro | intro _)
  any_goals (first | (refine hK10 _ ?_; clear hK10) | omega | (simp_all <;> omega))
  refine swp_seq fun K11 hK11 => ?_
  refine swp_region ty_ok ?_
  refine runs_cut 4 fun R12 hR12 => ?_
  try simp (maxSteps := 1000000) [List.take_succ_cons, List.take_zero, List.drop_succ_cons, List.drop_zero]
  repeat' (first | apply And.intro | intro _)
  any_goals (first | (refine hR12 _ ?_; clear hR12) | omega | (simp_all <;> omega))
  refine runs_cut 1 fun R13 hR13 => ?_
  try simp (maxSteps := 1000000) [List.take_succ_cons, List.take_zero, List.drop_succ_cons, List.drop_zero]
  refine .inl ⟨_, bits20_ok ga l st hga.2.2 hmm ⟨hga.1, hga.2.1⟩ hle hog, ?_⟩
  try simp (maxSteps := 1000000)
  repeat' (first | apply And.intro | intro _)
  any_goals (first | (refine hR13 _ ?_; clear hR13) | omega | (simp_all <;> omega))
  try simp (maxSteps := 1000000) [List.take_succ_cons, List.take_zero, List.drop_succ_cons, List.drop_zero]
  repeat' (first | apply And.intro | intro _)
  any_goals (first | (refine hK11 _ ?_; clear hK11) | omega | (simp_all <;> omega))
  refine swp_ret ?_
  simp [fnPost, Try.results37, resP, tupOf]
  exact ⟨fun h => absurd hz0 h, hz0⟩

theorem one20_ok (bs : List Int) (a : Int × Int) (bk bk2 p : Int) (he : bk2 = bk) (hm : bs.length ≤ 1000000) (hp : ∀ y ∈ bs, 0 ≤ y ∧ y ≤ 255) (hpp : 0 ≤ p ∧ p ≤ 1000000) (ha : AOk a) (hk : ¬ bk = 0) (x : Int) (hx : x = wasI a bk) : PCall Try.prog 110 [.ro (.ints .u8 bs), .int .i64 p, .int .i64 bk2, .int .i64 x] (.tup [.int .i64 (o1N bs a bk p), .int .i64 (o1P bs a bk p), .int .i64 (r1E bs a bk p)]) := by
 subst he
 subst hx
 have hp255 : ∀ k : Nat, 0 ≤ bs[k]?.getD 0 ∧ bs[k]?.getD 0 ≤ 255 := fun k => by
  cases hk : bs[k]? with
  | none => exact ⟨by decide, by decide⟩
  | some v => exact hp v (List.mem_of_getElem? hk)
 have hA := ha
 unfold AOk at hA
 have hw1 : bk2 = 13 → wasI a bk2 = a.2 := fun h => if_pos h
 have hw2 : ¬ bk2 = 13 → wasI a bk2 = a.1 := fun h => if_neg h
 have hst := st60 (b := bs) (p := p) hp255
 refine pcall_body ty_ok Try.func110 rfl (by rfl) (by simp) ?_
 rw [Try.ntmps110]
 refine swp_seq fun K1 hK1 => ?_
 refine swp_region ty_ok ?_
 try simp (maxSteps := 1000000)
 repeat' (first | apply And.intro | intro _)
 any_goals (first | (refine hK1 _ ?_; clear hK1) | omega | (simp_all <;> omega))
 refine swp_seq fun K2 hK2 => ?_
 refine swp_region ty_ok ?_
 try simp (maxSteps := 1000000)
 repeat' (first | apply And.intro | intro _)
 any_goals (first | (refine hK2 _ ?_; clear hK2) | omega | (simp_all <;> omega))
 refine swp_seq fun K3 hK3 => ?_
 refine swp_seq fun K4 hK4 => ?_
 refine swp_region ty_ok ?_
 try simp (maxSteps := 1000000)
 repeat' (first | apply And.intro | intro _)
 any_goals (first | (refine hK4 _ ?_; clear hK4) | omega | (simp_all <;> omega))
 refine swp_if fun C5 hC5 => ?_
 try simp (maxSteps := 1000000)
 refine hC5 _ (fun hc5 => ?_) (fun hc5 => ?_)
 ·clear hC5
  try simp at hc5
  refine swp_region ty_ok ?_
  try simp (maxSteps := 1000000)
  repeat' (first | apply And.intro | intro _)
  any_goals (first | (refine hK3 _ ?_; clear hK3) | omega | (simp_all <;> omega))
  refine swp_seq fun K6 hK6 => ?_
  refine swp_seq fun K7 hK7 => ?_
  refine swp_region ty_ok ?_
  try simp (maxSteps := 1000000)
  repeat' (first | apply And.intro | intro _)
  any_goals (first | (refine hK7 _ ?_; clear hK7) | omega | (simp_all <;> omega))
  refine swp_if fun C8 hC8 => ?_
  try simp (maxSteps := 1000000)
  refine hC8 _ (fun hc8 => ?_) (fun hc8 => ?_)
  ·clear hC8
   try simp at hc8
   refine swp_seq fun K9 hK9 => ?_
   refine swp_region ty_ok ?_
   refine runs_cut 2 fun R10 hR10 => ?_
   try simp (maxSteps := 1000000) [List.take_succ_cons, List.take_zero, List.drop_succ_cons, List.drop_zero]
   repeat' (first | apply And.intro | intro _)
   any_goals (first | (refine hR10 _ ?_; clear hR10) | omega | (simp_all <;> omega))
   refine runs_cut 1 fun R11 hR11 => ?_
   try simp (maxSteps := 1000000) [List.take_succ_cons, List.take_zero, List.drop_succ_cons, List.drop_zero]
   refine .inl ⟨_, rget_ok bs p 9 (by omega) hp255 (by omega), ?_⟩
   try simp (maxSteps := 1000000)
   repeat' (first | apply And.intro | intro _)
   any_goals (first | (refine hR11 _ ?_; clear hR11) | omega | (simp_all <;> omega))
   try simp (maxSteps := 1000000) [List.take_succ_cons, List.take_zero, List.drop_succ_cons, List.drop_zero]
   repeat' (first | apply And.intro | intro _)
   any_goals (first | (refine hK9 _ ?_; clear hK9) | omega | (simp_all <;> omega))
   refine swp_ret ?_
   simp [fnPost, Try.results110, resP, tupOf]
   obtain ⟨e1, e2, e3⟩ := o1_n (b := bs) (a := a) (bk := bk2) (p := p) (by assumption) (by omega)
   rw [e1, e2, e3]
   exact ⟨rfl, rfl, rfl⟩
  ·clear hC8
   try simp at hc8
   refine swp_skip ?_
   try simp only [thn, inBlk]
   refine hK6 _ ?_; clear hK6
   refine swp_seq fun K12 hK12 => ?_
   have hnn : ¬ (bk2 = 13 ∧ a.2 < 0) := by have h := hc8; omega
   obtain ⟨q1, q2, q3⟩ := r1_s (b := bs) (a := a) (bk := bk2) (p := p) hk hnn
   refine swp_region ty_ok ?_
   refine runs_cut 2 fun R13 hR13 => ?_
   try simp (maxSteps := 1000000) [List.take_succ_cons, List.take_zero, List.drop_succ_cons, List.drop_zero]
   repeat' (first | apply And.intro | intro _)
   any_goals (first | (refine hR13 _ ?_; clear hR13) | omega | (simp_all <;> omega))
   refine runs_cut 1 fun R14 hR14 => ?_
   try simp (maxSteps := 1000000) [List.take_succ_cons, List.take_zero, List.drop_succ_cons, List.drop_zero]
   refine .inl ⟨_, rstepped_ok bs p (by omega) hp255 (by omega), ?_⟩
   try simp (maxSteps := 1000000)
   repeat' (first | apply And.intro | intro _)
   any_goals (first | (refine hR14 _ ?_; clear hR14) | omega | (simp_all <;> omega))
   try simp (maxSteps := 1000000) [List.take_succ_cons, List.take_zero, List.drop_succ_cons, List.drop_zero]
   repeat' (first | apply And.intro | intro _)
   any_goals (first | (refine hK12 _ ?_; clear hK12) | omega | (simp_all <;> omega))
   refine swp_seq fun K15 hK15 => ?_
   refine swp_seq fun K16 hK16 => ?_
   refine swp_region ty_ok ?_
   try simp (maxSteps := 1000000)
   repeat' (first | apply And.intro | intro _)
   any_goals (first | (refine hK16 _ ?_; clear hK16) | omega | (simp_all <;> omega))
   refine swp_if fun C17 hC17 => ?_
   try simp (maxSteps := 1000000)
   refine hC17 _ (fun hc17 => ?_) (fun hc17 => ?_)
   ·clear hC17
    try simp at hc17
    refine swp_seq fun K18 hK18 => ?_
    refine swp_region ty_ok ?_
    try simp (maxSteps := 1000000)
    repeat' (first | apply And.intro | intro _)
    any_goals (first | (refine hK18 _ ?_; clear hK18) | omega | (simp_all <;> omega))
    refine swp_ret ?_
    simp [fnPost, Try.results110, resP, tupOf]
    have h := hc17
    rw [if_neg h] at q1
    unfold o1N o1P
    rw [q1, if_neg h, if_neg h]
    exact ⟨rfl, rfl, rfl⟩
   ·clear hC17
    try simp at hc17
    refine swp_skip ?_
    try simp only [thn, inBlk]
    refine hK15 _ ?_; clear hK15
    refine swp_seq fun K19 hK19 => ?_
    refine swp_seq fun K20 hK20 => ?_
    have hs0 : stE bs p = 0 := hc17
    have hsum : IntKind.i64.wrap (wasI a bk2 + stV bs p) = wasI a bk2 + stV bs p := w64 (by omega)
    refine swp_region ty_ok ?_
    try simp (maxSteps := 1000000) [hsum]
    repeat' (first | apply And.intro | intro _)
    any_goals (first | (refine hK20 _ ?_; clear hK20) | omega | (simp_all <;> omega))
    refine swp_if fun C21 hC21 => ?_
    try simp (maxSteps := 1000000) [hsum]
    refine hC21 _ (fun hc21 => ?_) (fun hc21 => ?_)
    ·clear hC21
     try simp at hc21
     refine swp_seq fun K22 hK22 => ?_
     refine swp_region ty_ok ?_
     try simp (maxSteps := 1000000)
     repeat' (first | apply And.intro | intro _)
     any_goals (first | (refine hK22 _ ?_; clear hK22) | omega | (simp_all <;> omega))
     refine swp_ret ?_
     simp [fnPost, Try.results110, resP, tupOf]
     have htk : tkB a bk2 (wasI a bk2 + stV bs p) = false := (if_neg hk).symm.trans (Bool.eq_false_iff.2 (fun hh => by have h := hc21; have := bd_iff.1 hh; omega))
     rw [if_pos hs0] at q1
     rw [if_neg (by rw [htk]; decide)] at q1
     unfold o1N o1P
     rw [q1]
     exact ⟨rfl, rfl, rfl⟩
    ·clear hC21
     try simp at hc21
     refine swp_skip ?_
     try simp only [thn, inBlk]
     refine hK19 _ ?_; clear hK19
     refine swp_seq fun K23 hK23 => ?_
     refine swp_region ty_ok ?_
     try simp (maxSteps := 1000000) [hsum]
     repeat' (first | apply And.intro | intro _)
     any_goals (first | (refine hK23 _ ?_; clear hK23) | omega | (simp_all <;> omega))
     refine swp_ret ?_
     simp [fnPost, Try.results110, resP, tupOf]
     have htk : tkB a bk2 (wasI a bk2 + stV bs p) = true := (if_neg hk).symm.trans (bd_iff.2 (by have h := hc21; omega))
     rw [if_pos hs0] at q1
     rw [if_pos htk] at q1
     unfold o1N o1P
     rw [q1, if_pos rfl, if_pos rfl, q2, q3]
     exact ⟨rfl, rfl, rfl⟩
 ·clear hC5
  try simp at hc5
  refine swp_skip ?_
  try simp only [thn, inBlk]
  refine hK3 _ ?_; clear hK3
  refine swp_seq fun K24 hK24 => ?_
  refine swp_seq fun K25 hK25 => ?_
  refine swp_region ty_ok ?_
  try simp (maxSteps := 1000000)
  repeat' (first | apply And.intro | intro _)
  any_goals (first | (refine hK25 _ ?_; clear hK25) | omega | (simp_all <;> omega))
  refine swp_if fun C26 hC26 => ?_
  try simp (maxSteps := 1000000)
  refine hC26 _ (fun hc26 => ?_) (fun hc26 => ?_)
  ·exfalso
   have h := hc26
   simp at h
   omega
  ·clear hC26
   try simp at hc26
   refine swp_skip ?_
   try simp only [thn, inBlk]
   refine hK24 _ ?_; clear hK24
   refine swp_seq fun K27 hK27 => ?_
   have hnn : ¬ (bk2 = 13 ∧ a.2 < 0) := by have h := hc26; omega
   obtain ⟨q1, q2, q3⟩ := r1_s (b := bs) (a := a) (bk := bk2) (p := p) hk hnn
   refine swp_region ty_ok ?_
   refine runs_cut 2 fun R28 hR28 => ?_
   try simp (maxSteps := 1000000) [List.take_succ_cons, List.take_zero, List.drop_succ_cons, List.drop_zero]
   repeat' (first | apply And.intro | intro _)
   any_goals (first | (refine hR28 _ ?_; clear hR28) | omega | (simp_all <;> omega))
   refine runs_cut 1 fun R29 hR29 => ?_
   try simp (maxSteps := 1000000) [List.take_succ_cons, List.take_zero, List.drop_succ_cons, List.drop_zero]
   refine .inl ⟨_, rstepped_ok bs p (by omega) hp255 (by omega), ?_⟩
   try simp (maxSteps := 1000000)
   repeat' (first | apply And.intro | intro _)
   any_goals (first | (refine hR29 _ ?_; clear hR29) | omega | (simp_all <;> omega))
   try simp (maxSteps := 1000000) [List.take_succ_cons, List.take_zero, List.drop_succ_cons, List.drop_zero]
   repeat' (first | apply And.intro | intro _)
   any_goals (first | (refine hK27 _ ?_; clear hK27) | omega | (simp_all <;> omega))
   refine swp_seq fun K30 hK30 => ?_
   refine swp_seq fun K31 hK31 => ?_
   refine swp_region ty_ok ?_
   try simp (maxSteps := 1000000)
   repeat' (first | apply And.intro | intro _)
   any_goals (first | (refine hK31 _ ?_; clear hK31) | omega | (simp_all <;> omega))
   refine swp_if fun C32 hC32 => ?_
   try simp (maxSteps := 1000000)
   refine hC32 _ (fun hc32 => ?_) (fun hc32 => ?_)
   ·clear hC32
    try simp at hc32
    refine swp_seq fun K33 hK33 => ?_
    refine swp_region ty_ok ?_
    try simp (maxSteps := 1000000)
    repeat' (first | apply And.intro | intro _)
    any_goals (first | (refine hK33 _ ?_; clear hK33) | omega | (simp_all <;> omega))
    refine swp_ret ?_
    simp [fnPost, Try.results110, resP, tupOf]
    have h := hc32
    rw [if_neg h] at q1
    unfold o1N o1P
    rw [q1, if_neg h, if_neg h]
    exact ⟨rfl, rfl, rfl⟩
   ·clear hC32
    try simp at hc32
    refine swp_skip ?_
    try simp only [thn, inBlk]
    refine hK30 _ ?_; clear hK30
    refine swp_seq fun K34 hK34 => ?_
    refine swp_seq fun K35 hK35 => ?_
    have hs0 : stE bs p = 0 := hc32
    have hsum : IntKind.i64.wrap (wasI a bk2 + stV bs p) = wasI a bk2 + stV bs p := w64 (by omega)
    refine swp_region ty_ok ?_
    try simp (maxSteps := 1000000) [hsum]
    repeat' (first | apply And.intro | intro _)
    any_goals (first | (refine hK35 _ ?_; clear hK35) | omega | (simp_all <;> omega))
    refine swp_if fun C36 hC36 => ?_
    try simp (maxSteps := 1000000) [hsum]
    refine hC36 _ (fun hc36 => ?_) (fun hc36 => ?_)
    ·clear hC36
     try simp at hc36
     refine swp_seq fun K37 hK37 => ?_
     refine swp_region ty_ok ?_
     try simp (maxSteps := 1000000)
     repeat' (first | apply And.intro | intro _)
     any_goals (first | (refine hK37 _ ?_; clear hK37) | omega | (simp_all <;> omega))
     refine swp_ret ?_
     simp [fnPost, Try.results110, resP, tupOf]
     have htk : tkB a bk2 (wasI a bk2 + stV bs p) = false := (if_neg hk).symm.trans (Bool.eq_false_iff.2 (fun hh => by have h := hc36; have := bd_iff.1 hh; omega))
     rw [if_pos hs0] at q1
     rw [if_neg (by rw [htk]; decide)] at q1
     unfold o1N o1P
     rw [q1]
     exact ⟨rfl, rfl, rfl⟩
    ·clear hC36
     try simp at hc36
     refine swp_skip ?_
     try simp only [thn, inBlk]
     refine hK34 _ ?_; clear hK34
     refine swp_seq fun K38 hK38 => ?_
     refine swp_region ty_ok ?_
     try simp (maxSteps := 1000000) [hsum]
     repeat' (first | apply And.intro | intro _)
     any_goals (first | (refine hK38 _ ?_; clear hK38) | omega | (simp_all <;> omega))
     refine swp_ret ?_
     simp [fnPost, Try.results110, resP, tupOf]
     have htk : tkB a bk2 (wasI a bk2 + stV bs p) = true := (if_neg hk).symm.trans (bd_iff.2 (by have h := hc36; omega))
     rw [if_pos hs0] at q1
     rw [if_pos htk] at q1
     unfold o1N o1P
     rw [q1, if_pos rfl, if_pos rfl, q2, q3]
     exact ⟨rfl, rfl, rfl⟩

end Go.Proofs.Ytgheplondkoedaa

