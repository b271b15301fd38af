import Derived.Test.YtmkgfgdipkagbaaWf
import Derived.Test.YtmkgfgdipkagbaaTyl
import Derived.Test.YtmkgfgdipkagbaaLband
import Derived.Test.YtmkgfgdipkagbaaLinfo
import Derived.Test.YtmkgfgdipkagbaaLinfo2
import Derived.Test.YtmkgfgdipkagbaaLbits
import Derived.Test.YtmkgfgdipkagbaaLtns
import Derived.Test.YtmkgfgdipkagbaaLtnp
import Derived.Test.YtmkgfgdipkagbaaLtnl
import Derived.Test.YtmkgfgdipkagbaaLlan
import Derived.Test.YtmkgfgdipkagbaaLlan2
import Derived.Test.YtmkgfgdipkagbaaLlan3
import Derived.Test.YtmkgfgdipkagbaaLlan4
import Derived.Test.YtmkgfgdipkagbaaLlan5
import Derived.Test.YtmkgfgdipkagbaaLlan6
namespace Go.Proofs.Ytmkgfgdipkagbaa
set_option linter.unusedVariables false
set_option linter.unusedSimpArgs false
set_option maxRecDepth 10000
open Go Go.Pv


open Go.RowKit
instance : DecidableEq Sc := fun ⟨a, b⟩ ⟨c, d⟩ => decidable_of_iff (a = c ∧ b = d) (by simp)
instance : DecidableEq Fl := fun ⟨a, b, c, d, e⟩ ⟨a2, b2, c2, d2, e2⟩ => decidable_of_iff (a = a2 ∧ b = b2 ∧ c = c2 ∧ d = d2 ∧ e = e2) (by simp)
theorem fl_eq (x y : Fl) : decide (x = y) = (decide (x.len = y.len) && decide (x.order = y.order) && decide (x.down = y.down) && decide (x.fine = y.fine) && decide (x.co = y.co)) := by
 obtain ⟨a, b, c, d, e⟩ := x
 obtain ⟨a2, b2, c2, d2, e2⟩ := y
 simp [Bool.and_assoc]
theorem eqs_len {α : Type} {xs ys : List α} (h : ¬ xs.length = ys.length) : ¬ xs = ys := fun e => h (by rw [e])
theorem eqs_no {α : Type} (d : α) {xs ys : List α} {k : Nat} (h : ¬ xs[k]?.getD d = ys[k]?.getD d) : ¬ xs = ys := fun e => h (by rw [e])
theorem eqs_yes {α : Type} (d : α) {xs ys : List α} {k : Nat} (hl : xs.length = ys.length) (hk : xs.length ≤ k) (h : ∀ j < k, xs[j]?.getD d = ys[j]?.getD d) : xs = ys := by
 refine List.ext_getElem hl fun j h1 h2 => ?_
 have := h j (by omega)
 rwa [List.getElem?_eq_getElem h1, List.getElem?_eq_getElem h2] at this
theorem ne_sc {x y : Sc} (h : ¬ (x.book = y.book ∧ x.len = y.len)) : ¬ x = y := fun e => h (by rw [e]; exact ⟨rfl, rfl⟩)
theorem is_sc {x y : Sc} (h : x.book = y.book ∧ x.len = y.len) : x = y := by
 obtain ⟨a, b⟩ := x
 obtain ⟨c, d⟩ := y
 obtain ⟨h1, h2⟩ := h
 simp only at h1 h2
 rw [h1, h2]
theorem ne_fl {x y : Fl} (h : (((¬ x.len = y.len ∨ ¬ x.order = y.order) ∨ ¬ x.down = y.down) ∨ ¬ x.fine = y.fine) ∨ ¬ x.co = y.co) : ¬ x = y := fun e => by subst e; simp at h
theorem is_fl {x y : Fl} (h : (((x.len = y.len ∧ x.order = y.order) ∧ x.down = y.down) ∧ x.fine = y.fine) ∧ x.co = y.co) : x = y := by
 obtain ⟨a, b, c, d, e⟩ := x
 obtain ⟨a2, b2, c2, d2, e2⟩ := y
 obtain ⟨⟨⟨⟨h1, h2⟩, h3⟩, h4⟩, h5⟩ := h
 simp only at h1 h2 h3 h4 h5
 rw [h1, h2, h3, h4, h5]

attribute [local simp] runs gd step1 need evu un opnds opv ev cst cst1 cstL getT getH putT onL nxt argT cellsOf PV.one thn inBlk jmp fldP ldP ldC live Cells.len Cells.get Cells.w sug ldv bin eqF eq1 ops2 sh2 binv Tk.agg stC apC rdS apS cpC cpS mvL zp argsP idx fillP toInts chunks mkC ixS ixA oidx slP sl0 slA optL List.append mxF bltn frzA frz frzL frz1 pur1 Cells.pur PV.scal scal1 runD rdO PV.ids id1 zids ety Eff.on cnd minb and1b ifmax ifmin mxv sugI strv w0 w1 w2 wm1
theorem eqS_ok (xs ys : List Sc) (hx : xs.length ≤ 1000000) : PCall Try.prog 43 [.ro (.rows 2 (xs.map Sc.row)), .ro (.rows 2 (ys.map Sc.row))] (.bool (decide (xs = ys))) := by
 refine pcall_body ty_ok Try.func43 rfl (by rfl) (by simp) ?_
 rw [Try.ntmps43]
 refine swp_seq fun K1 hK1 => ?_
 refine swp_region ty_ok ?_
 try simp (maxSteps := 1000000)
 repeat' (first | apply And.intro | intro _)
 any_goals (first | (refine hK1 _ ?_; clear hK1) | omega | (simp_all <;> omega))
 refine swp_seq fun K2 hK2 => ?_
 refine swp_seq fun K3 hK3 => ?_
 refine swp_region ty_ok ?_
 try simp (maxSteps := 1000000)
 repeat' (first | apply And.intro | intro _)
 any_goals (first | (refine hK3 _ ?_; clear hK3) | omega | (simp_all <;> omega))
 refine swp_if fun C4 hC4 => ?_
 try simp (maxSteps := 1000000)
 refine hC4 _ (fun hc4 => ?_) (fun hc4 => ?_)
 ·clear hC4
  try simp at hc4
  refine swp_seq fun K5 hK5 => ?_
  refine swp_region ty_ok ?_
  try simp (maxSteps := 1000000)
  repeat' (first | apply And.intro | intro _)
  any_goals (first | (refine hK5 _ ?_; clear hK5) | omega | (simp_all <;> omega))
  refine swp_ret ?_
  simp [fnPost, Try.results43, resP, tupOf]
  exact eqs_len (by omega)
 ·clear hC4
  try simp at hc4
  refine swp_skip ?_
  try simp only [thn, inBlk]
  refine hK2 _ ?_; clear hK2
  refine swp_seq fun K6 hK6 => ?_
  refine swp_seq fun K7 hK7 => ?_
  refine swp_region ty_ok ?_
  try simp (maxSteps := 1000000)
  repeat' (first | apply And.intro | intro _)
  any_goals (first | (refine hK7 _ ?_; clear hK7) | omega | (simp_all <;> omega))
  refine swp_block ?_
  refine swp_loop 0 (fun m_ s_ => ∃ (k : Nat), (k ≤ xs.length) ∧ (xs.length = ys.length) ∧ (∀ j < k, xs[j]?.getD default = ys[j]?.getD default) ∧ s_ = ⟨[(0, .ro (.rows 2 (xs.map Sc.row))), (1, .ro (.rows 2 (ys.map Sc.row))), (12, .int .i64 (xs.length : Nat)), (13, .int .i64 (k : Nat))], [], 0⟩ ∧ m_ = xs.length - k) _ ⟨[(0, .ro (.rows 2 (xs.map Sc.row))), (1, .ro (.rows 2 (ys.map Sc.row))), (12, .int .i64 (xs.length : Nat)), (13, .int .i64 (0 : Nat))], [], 0⟩ ⟨by simp [getT, PV.lo, lo1], by simp [getH, Blk.lo, Cells.lo, lo1], rfl, by omega⟩ ⟨(0), by omega, by omega, by simp, rfl, rfl⟩ ?_
  rintro m_ s_ ⟨k, hL8_0, hL8_1, hL8_2, rfl, rfl⟩ KL8 hL8
  have hkw : IntKind.i64.wrap ((k : Int) + 1) = (((k + 1 : Nat)) : Int) := wnext (by omega)
  refine swp_seq fun K9 hK9 => ?_
  refine swp_region ty_ok ?_
  try simp (maxSteps := 1000000)
  repeat' (first | apply And.intro | intro _)
  any_goals (first | (refine hK9 _ ?_; clear hK9) | omega | (simp_all <;> omega))
  refine swp_seq fun K10 hK10 => ?_
  refine swp_if fun C11 hC11 => ?_
  try simp (maxSteps := 1000000)
  refine hC11 _ (fun hc11 => ?_) (fun hc11 => ?_)
  ·clear hC11
   try simp at hc11
   refine swp_skip ?_
   try simp only [thn, inBlk]
   refine hK10 _ ?_; clear hK10
   refine swp_seq fun K12 hK12 => ?_
   refine swp_block ?_
   refine swp_seq fun K13 hK13 => ?_
   refine swp_region ty_ok ?_
   try simp (maxSteps := 1000000)
   repeat' (first | apply And.intro | intro _)
   any_goals (first | (refine hK13 _ ?_; clear hK13) | omega | (simp_all <;> omega))
   refine swp_seq fun K14 hK14 => ?_
   have hra := sc_at (ws := xs) (k := k) (by omega)
   have hrb := sc_at (ws := ys) (k := k) (by omega)
   refine swp_draw ty_ok mixed (ms := [0, 0, 3, 7, 0, 0, 48, 112, 255]) (by kernel_rfl) ?_
   try simp (maxSteps := 1000000) [hra, hrb]
   repeat' (first | apply And.intro | intro _)
   any_goals (first | kernel_rfl | (refine hK14 _ ?_; clear hK14) | omega | (simp_all <;> omega))
   refine swp_if fun C16 hC16 => ?_
   try simp (maxSteps := 1000000) [hra, hrb]
   refine hC16 _ (fun hc16 => ?_) (fun hc16 => ?_)
   ·clear hC16
    try simp at hc16
    refine swp_seq fun K17 hK17 => ?_
    refine swp_region ty_ok ?_
    try simp (maxSteps := 1000000)
    repeat' (first | apply And.intro | intro _)
    any_goals (first | (refine hK17 _ ?_; clear hK17) | omega | (simp_all <;> omega))
    refine swp_ret ?_
    simp [fnPost, Try.results43, resP, tupOf]
    exact eqs_no default (k := k) (ne_sc (by have h := hc16; intro hh; simp_all))
   ·clear hC16
    try simp at hc16
    refine swp_skip ?_
    try simp only [thn, inBlk]
    refine hK12 _ ?_; clear hK12
    refine swp_region ty_ok ?_
    try simp (maxSteps := 1000000)
    repeat' apply And.intro
    any_goals (try omega)
    refine hL8 _ ⟨[(0, .ro (.rows 2 (xs.map Sc.row))), (1, .ro (.rows 2 (ys.map Sc.row))), (12, .int .i64 (xs.length : Nat)), (13, .int .i64 ((k + 1) : Nat))], [], 0⟩ _ ?_ ⟨(k + 1), by omega, by omega, by (refine lt_step (by assumption) ?_; exact is_sc hc16), rfl, rfl⟩ ⟨by simp [getT, PV.lo, lo1, hkw], by simp [getH, Blk.lo, Cells.lo, lo1], rfl, by omega⟩
    omega
  ·clear hC11
   try simp at hc11
   refine swp_exit ?_
   simp [thn, inBlk]
   refine hK6 _ ?_; clear hK6
   refine swp_seq fun K18 hK18 => ?_
   refine swp_region ty_ok ?_
   try simp (maxSteps := 1000000)
   repeat' (first | apply And.intro | intro _)
   any_goals (first | (refine hK18 _ ?_; clear hK18) | omega | (simp_all <;> omega))
   refine swp_ret ?_
   simp [fnPost, Try.results43, resP, tupOf]
   exact eqs_yes default (by omega) (by omega) (by assumption)

theorem eqfS_ok (xs ys : List (List Sc)) (hx : xs.length ≤ 1000000) (hw : ∀ w ∈ xs, w.length ≤ 1000000) : PCall Try.prog 42 [.ro (.rows 1 (xs.map fun w => [PV.ro (.rows 2 (w.map Sc.row))])), .ro (.rows 1 (ys.map fun w => [PV.ro (.rows 2 (w.map Sc.row))])), .fn 43 []] (.bool (decide (xs = ys))) := by
 refine pcall_body ty_ok Try.func42 rfl (by rfl) (by simp) ?_
 rw [Try.ntmps42]
 refine swp_seq fun K1 hK1 => ?_
 refine swp_region ty_ok ?_
 try simp (maxSteps := 1000000)
 repeat' (first | apply And.intro | intro _)
 any_goals (first | (refine hK1 _ ?_; clear hK1) | omega | (simp_all <;> omega))
 refine swp_seq fun K2 hK2 => ?_
 refine swp_seq fun K3 hK3 => ?_
 refine swp_region ty_ok ?_
 try simp (maxSteps := 1000000)
 repeat' (first | apply And.intro | intro _)
 any_goals (first | (refine hK3 _ ?_; clear hK3) | omega | (simp_all <;> omega))
 refine swp_if fun C4 hC4 => ?_
 try simp (maxSteps := 1000000)
 refine hC4 _ (fun hc4 => ?_) (fun hc4 => ?_)
 ·clear hC4
  try simp at hc4
  refine swp_seq fun K5 hK5 => ?_
  refine swp_region ty_ok ?_
  try simp (maxSteps := 1000000)
  repeat' (first | apply And.intro | intro _)
  any_goals (first | (refine hK5 _ ?_; clear hK5) | omega | (simp_all <;> omega))
  refine swp_ret ?_
  simp [fnPost, Try.results42, resP, tupOf]
  exact eqs_len (by omega)
 ·clear hC4
  try simp at hc4
  refine swp_skip ?_
  try simp only [thn, inBlk]
  refine hK2 _ ?_; clear hK2
  refine swp_seq fun K6 hK6 => ?_
  refine swp_seq fun K7 hK7 => ?_
  refine swp_region ty_ok ?_
  try simp (maxSteps := 1000000)
  repeat' (first | apply And.intro | intro _)
  any_goals (first | (refine hK7 _ ?_; clear hK7) | omega | (simp_all <;> omega))
  refine swp_block ?_
  refine swp_loop 0 (fun m_ s_ => ∃ (k : Nat), (k ≤ xs.length) ∧ (xs.length = ys.length) ∧ (∀ j < k, xs[j]?.getD [] = ys[j]?.getD []) ∧ s_ = ⟨[(0, .ro (.rows 1 (xs.map fun w => [PV.ro (.rows 2 (w.map Sc.row))]))), (1, .ro (.rows 1 (ys.map fun w => [PV.ro (.rows 2 (w.map Sc.row))]))), (2, .fn 43 []), (15, .ro (.rows 1 (xs.map fun w => [PV.ro (.rows 2 (w.map Sc.row))]))), (16, .int .i64 (xs.length : Nat)), (17, .int .i64 (k : Nat))], [], 0⟩ ∧ m_ = xs.length - k) _ ⟨[(0, .ro (.rows 1 (xs.map fun w => [PV.ro (.rows 2 (w.map Sc.row))]))), (1, .ro (.rows 1 (ys.map fun w => [PV.ro (.rows 2 (w.map Sc.row))]))), (2, .fn 43 []), (15, .ro (.rows 1 (xs.map fun w => [PV.ro (.rows 2 (w.map Sc.row))]))), (16, .int .i64 (xs.length : Nat)), (17, .int .i64 (0 : Nat))], [], 0⟩ ⟨by simp [getT, PV.lo, lo1], by simp [getH, Blk.lo, Cells.lo, lo1], rfl, by omega⟩ ⟨(0), by omega, by omega, by simp, rfl, rfl⟩ ?_
  rintro m_ s_ ⟨k, hL8_0, hL8_1, hL8_2, rfl, rfl⟩ KL8 hL8
  have hkw : IntKind.i64.wrap ((k : Int) + 1) = (((k + 1 : Nat)) : Int) := wnext (by omega)
  refine swp_seq fun K9 hK9 => ?_
  refine swp_region ty_ok ?_
  try simp (maxSteps := 1000000)
  repeat' (first | apply And.intro | intro _)
  any_goals (first | (refine hK9 _ ?_; clear hK9) | omega | (simp_all <;> omega))
  refine swp_seq fun K10 hK10 => ?_
  refine swp_if fun C11 hC11 => ?_
  try simp (maxSteps := 1000000)
  refine hC11 _ (fun hc11 => ?_) (fun hc11 => ?_)
  ·clear hC11
   try simp at hc11
   refine swp_skip ?_
   try simp only [thn, inBlk]
   refine hK10 _ ?_; clear hK10
   refine swp_seq fun K12 hK12 => ?_
   refine swp_block ?_
   refine swp_seq fun K13 hK13 => ?_
   have hra := s_at (l := xs) (k := k) (by omega)
   have hrb := s_at (l := ys) (k := k) (by omega)
   have hwk := hw _ (mem_at (w := xs) (j := k) (by omega))
   refine swp_region ty_ok ?_
   try simp (maxSteps := 1000000) [hra]
   repeat' (first | apply And.intro | intro _)
   any_goals (first | (refine hK13 _ ?_; clear hK13) | omega | (simp_all <;> omega))
   refine swp_seq fun K14 hK14 => ?_
   refine swp_region ty_ok ?_
   try simp (maxSteps := 1000000) [hrb]
   repeat' (first | apply And.intro | intro _)
   any_goals (first | (refine hK14 _ ?_; clear hK14) | omega | (simp_all <;> omega))
   refine swp_seq fun K15 hK15 => ?_
   refine swp_region ty_ok ?_
   refine runs_cut 3 fun R16 hR16 => ?_
   try simp (maxSteps := 1000000) [List.take_succ_cons, List.take_zero, List.drop_succ_cons, List.drop_zero]
   repeat' (first | apply And.intro | intro _)
   any_goals (first | (refine hR16 _ ?_; clear hR16) | omega | (simp_all <;> omega))
   refine runs_cut 1 fun R17 hR17 => ?_
   try simp (maxSteps := 1000000) [List.take_succ_cons, List.take_zero, List.drop_succ_cons, List.drop_zero]
   refine .inl ⟨_, eqS_ok _ _ hwk, ?_⟩
   try simp (maxSteps := 1000000)
   repeat' (first | apply And.intro | intro _)
   any_goals (first | (refine hR17 _ ?_; clear hR17) | omega | (simp_all <;> omega))
   try simp (maxSteps := 1000000) [List.take_succ_cons, List.take_zero, List.drop_succ_cons, List.drop_zero]
   repeat' (first | apply And.intro | intro _)
   any_goals (first | (refine hK15 _ ?_; clear hK15) | omega | (simp_all <;> omega))
   refine swp_if fun C18 hC18 => ?_
   try simp (maxSteps := 1000000)
   refine hC18 _ (fun hc18 => ?_) (fun hc18 => ?_)
   ·clear hC18
    try simp at hc18
    refine swp_seq fun K19 hK19 => ?_
    refine swp_region ty_ok ?_
    try simp (maxSteps := 1000000)
    repeat' (first | apply And.intro | intro _)
    any_goals (first | (refine hK19 _ ?_; clear hK19) | omega | (simp_all <;> omega))
    refine swp_ret ?_
    simp [fnPost, Try.results42, resP, tupOf]
    exact eqs_no [] (k := k) (by assumption)
   ·clear hC18
    try simp at hc18
    refine swp_skip ?_
    try simp only [thn, inBlk]
    refine hK12 _ ?_; clear hK12
    refine swp_region ty_ok ?_
    try simp (maxSteps := 1000000)
    repeat' apply And.intro
    any_goals (try omega)
    refine hL8 _ ⟨[(0, .ro (.rows 1 (xs.map fun w => [PV.ro (.rows 2 (w.map Sc.row))]))), (1, .ro (.rows 1 (ys.map fun w => [PV.ro (.rows 2 (w.map Sc.row))]))), (2, .fn 43 []), (15, .ro (.rows 1 (xs.map fun w => [PV.ro (.rows 2 (w.map Sc.row))]))), (16, .int .i64 (xs.length : Nat)), (17, .int .i64 ((k + 1) : Nat))], [], 0⟩ _ ?_ ⟨(k + 1), by omega, by omega, by (refine lt_step (by assumption) ?_; assumption), rfl, rfl⟩ ⟨by simp [getT, PV.lo, lo1, hkw], by simp [getH, Blk.lo, Cells.lo, lo1], rfl, by omega⟩
    omega
  ·clear hC11
   try simp at hc11
   refine swp_exit ?_
   simp [thn, inBlk]
   refine hK6 _ ?_; clear hK6
   refine swp_seq fun K20 hK20 => ?_
   refine swp_region ty_ok ?_
   try simp (maxSteps := 1000000)
   repeat' (first | apply And.intro | intro _)
   any_goals (first | (refine hK20 _ ?_; clear hK20) | omega | (simp_all <;> omega))
   refine swp_ret ?_
   simp [fnPost, Try.results42, resP, tupOf]
   exact eqs_yes [] (by omega) (by omega) (by assumption)

theorem eqfI_ok (xs ys : List (List Int)) (hx : xs.length ≤ 1000000) (hw : ∀ w ∈ xs, w.length ≤ 1000000) : PCall Try.prog 44 [.ro (.rows 1 (xs.map fun w => [PV.ro (.ints .i64 w)])), .ro (.rows 1 (ys.map fun w => [PV.ro (.ints .i64 w)])), .fn 41 []] (.bool (decide (xs = ys))) := by
 refine pcall_body ty_ok Try.func44 rfl (by rfl) (by simp) ?_
 rw [Try.ntmps44]
 refine swp_seq fun K1 hK1 => ?_
 refine swp_region ty_ok ?_
 try simp (maxSteps := 1000000)
 repeat' (first | apply And.intro | intro _)
 any_goals (first | (refine hK1 _ ?_; clear hK1) | omega | (simp_all <;> omega))
 refine swp_seq fun K2 hK2 => ?_
 refine swp_seq fun K3 hK3 => ?_
 refine swp_region ty_ok ?_
 try simp (maxSteps := 1000000)
 repeat' (first | apply And.intro | intro _)
 any_goals (first | (refine hK3 _ ?_; clear hK3) | omega | (simp_all <;> omega))
 refine swp_if fun C4 hC4 => ?_
 try simp (maxSteps := 1000000)
 refine hC4 _ (fun hc4 => ?_) (fun hc4 => ?_)
 ·clear hC4
  try simp at hc4
  refine swp_seq fun K5 hK5 => ?_
  refine swp_region ty_ok ?_
  try simp (maxSteps := 1000000)
  repeat' (first | apply And.intro | intro _)
  any_goals (first | (refine hK5 _ ?_; clear hK5) | omega | (simp_all <;> omega))
  refine swp_ret ?_
  simp [fnPost, Try.results44, resP, tupOf]
  exact eqs_len (by omega)
 ·clear hC4
  try simp at hc4
  refine swp_skip ?_
  try simp only [thn, inBlk]
  refine hK2 _ ?_; clear hK2
  refine swp_seq fun K6 hK6 => ?_
  refine swp_seq fun K7 hK7 => ?_
  refine swp_region ty_ok ?_
  try simp (maxSteps := 1000000)
  repeat' (first | apply And.intro | intro _)
  any_goals (first | (refine hK7 _ ?_; clear hK7) | omega | (simp_all <;> omega))
  refine swp_block ?_
  refine swp_loop 0 (fun m_ s_ => ∃ (k : Nat), (k ≤ xs.length) ∧ (xs.length = ys.length) ∧ (∀ j < k, xs[j]?.getD [] = ys[j]?.getD []) ∧ s_ = ⟨[(0, .ro (.rows 1 (xs.map fun w => [PV.ro (.ints .i64 w)]))), (1, .ro (.rows 1 (ys.map fun w => [PV.ro (.ints .i64 w)]))), (2, .fn 41 []), (15, .ro (.rows 1 (xs.map fun w => [PV.ro (.ints .i64 w)]))), (16, .int .i64 (xs.length : Nat)), (17, .int .i64 (k : Nat))], [], 0⟩ ∧ m_ = xs.length - k) _ ⟨[(0, .ro (.rows 1 (xs.map fun w => [PV.ro (.ints .i64 w)]))), (1, .ro (.rows 1 (ys.map fun w => [PV.ro (.ints .i64 w)]))), (2, .fn 41 []), (15, .ro (.rows 1 (xs.map fun w => [PV.ro (.ints .i64 w)]))), (16, .int .i64 (xs.length : Nat)), (17, .int .i64 (0 : Nat))], [], 0⟩ ⟨by simp [getT, PV.lo, lo1], by simp [getH, Blk.lo, Cells.lo, lo1], rfl, by omega⟩ ⟨(0), by omega, by omega, by simp, rfl, rfl⟩ ?_
  rintro m_ s_ ⟨k, hL8_0, hL8_1, hL8_2, rfl, rfl⟩ KL8 hL8
  have hkw : IntKind.i64.wrap ((k : Int) + 1) = (((k + 1 : Nat)) : Int) := wnext (by omega)
  refine swp_seq fun K9 hK9 => ?_
  refine swp_region ty_ok ?_
  try simp (maxSteps := 1000000)
  repeat' (first | apply And.intro | intro _)
  any_goals (first | (refine hK9 _ ?_; clear hK9) | omega | (simp_all <;> omega))
  refine swp_seq fun K10 hK10 => ?_
  refine swp_if fun C11 hC11 => ?_
  try simp (maxSteps := 1000000)
  refine hC11 _ (fun hc11 => ?_) (fun hc11 => ?_)
  ·clear hC11
   try simp at hc11
   refine swp_skip ?_
   try simp only [thn, inBlk]
   refine hK10 _ ?_; clear hK10
   refine swp_seq fun K12 hK12 => ?_
   refine swp_block ?_
   refine swp_seq fun K13 hK13 => ?_
   have hra := i_at (l := xs) (k := k) (by omega)
   have hrb := i_at (l := ys) (k := k) (by omega)
   have hwk := hw _ (mem_at (w := xs) (j := k) (by omega))
   refine swp_region ty_ok ?_
   try simp (maxSteps := 1000000) [hra]
   repeat' (first | apply And.intro | intro _)
   any_goals (first | (refine hK13 _ ?_; clear hK13) | omega | (simp_all <;> omega))
   refine swp_seq fun K14 hK14 => ?_
   refine swp_region ty_ok ?_
   try simp (maxSteps := 1000000) [hrb]
   repeat' (first | apply And.intro | intro _)
   any_goals (first | (refine hK14 _ ?_; clear hK14) | omega | (simp_all <;> omega))
   refine swp_seq fun K15 hK15 => ?_
   refine swp_region ty_ok ?_
   refine runs_cut 3 fun R16 hR16 => ?_
   try simp (maxSteps := 1000000) [List.take_succ_cons, List.take_zero, List.drop_succ_cons, List.drop_zero]
   repeat' (first | apply And.intro | intro _)
   any_goals (first | (refine hR16 _ ?_; clear hR16) | omega | (simp_all <;> omega))
   refine runs_cut 1 fun R17 hR17 => ?_
   try simp (maxSteps := 1000000) [List.take_succ_cons, List.take_zero, List.drop_succ_cons, List.drop_zero]
   refine .inl ⟨_, equal_ok _ _ (by have h : (xs[k]?.getD []).length ≤ 1000000 := hwk; omega), ?_⟩
   try simp (maxSteps := 1000000)
   repeat' (first | apply And.intro | intro _)
   any_goals (first | (refine hR17 _ ?_; clear hR17) | omega | (simp_all <;> omega))
   try simp (maxSteps := 1000000) [List.take_succ_cons, List.take_zero, List.drop_succ_cons, List.drop_zero]
   repeat' (first | apply And.intro | intro _)
   any_goals (first | (refine hK15 _ ?_; clear hK15) | omega | (simp_all <;> omega))
   refine swp_if fun C18 hC18 => ?_
   try simp (maxSteps := 1000000)
   refine hC18 _ (fun hc18 => ?_) (fun hc18 => ?_)
   ·clear hC18
    try simp at hc18
    refine swp_seq fun K19 hK19 => ?_
    refine swp_region ty_ok ?_
    try simp (maxSteps := 1000000)
    repeat' (first | apply And.intro | intro _)
    any_goals (first | (refine hK19 _ ?_; clear hK19) | omega | (simp_all <;> omega))
    refine swp_ret ?_
    simp [fnPost, Try.results44, resP, tupOf]
    exact eqs_no [] (k := k) (by assumption)
   ·clear hC18
    try simp at hc18
    refine swp_skip ?_
    try simp only [thn, inBlk]
    refine hK12 _ ?_; clear hK12
    refine swp_region ty_ok ?_
    try simp (maxSteps := 1000000)
    repeat' apply And.intro
    any_goals (try omega)
    refine hL8 _ ⟨[(0, .ro (.rows 1 (xs.map fun w => [PV.ro (.ints .i64 w)]))), (1, .ro (.rows 1 (ys.map fun w => [PV.ro (.ints .i64 w)]))), (2, .fn 41 []), (15, .ro (.rows 1 (xs.map fun w => [PV.ro (.ints .i64 w)]))), (16, .int .i64 (xs.length : Nat)), (17, .int .i64 ((k + 1) : Nat))], [], 0⟩ _ ?_ ⟨(k + 1), by omega, by omega, by (refine lt_step (by assumption) ?_; assumption), rfl, rfl⟩ ⟨by simp [getT, PV.lo, lo1, hkw], by simp [getH, Blk.lo, Cells.lo, lo1], rfl, by omega⟩
    omega
  ·clear hC11
   try simp at hc11
   refine swp_exit ?_
   simp [thn, inBlk]
   refine hK6 _ ?_; clear hK6
   refine swp_seq fun K20 hK20 => ?_
   refine swp_region ty_ok ?_
   try simp (maxSteps := 1000000)
   repeat' (first | apply And.intro | intro _)
   any_goals (first | (refine hK20 _ ?_; clear hK20) | omega | (simp_all <;> omega))
   refine swp_ret ?_
   simp [fnPost, Try.results44, resP, tupOf]
   exact eqs_yes [] (by omega) (by omega) (by assumption)

theorem alike_ok (x y : Fl) (hx : x.co.length ≤ 1000000) : PCall Try.prog 48 [.agg [.int .i64 x.len, .int .i64 x.order, .bool x.down, .bool x.fine, .ro (.ints .i64 x.co)], .agg [.int .i64 y.len, .int .i64 y.order, .bool y.down, .bool y.fine, .ro (.ints .i64 y.co)]] (.bool (decide (x = y))) := by
 refine pcall_body ty_ok Try.func48 rfl (by rfl) (by simp) ?_
 rw [Try.ntmps48]
 refine swp_seq fun K1 hK1 => ?_
 refine swp_region ty_ok ?_
 try simp (maxSteps := 1000000)
 repeat' (first | apply And.intro | intro _)
 any_goals (first | (refine hK1 _ ?_; clear hK1) | omega | (simp_all <;> omega))
 refine swp_seq fun K2 hK2 => ?_
 refine swp_region ty_ok ?_
 refine runs_cut 10 fun R3 hR3 => ?_
 try simp (maxSteps := 1000000) [List.take_succ_cons, List.take_zero, List.drop_succ_cons, List.drop_zero]
 repeat' (first | apply And.intro | intro _)
 any_goals (first | (refine hR3 _ ?_; clear hR3) | omega | (simp_all <;> omega))
 refine runs_cut 10 fun R4 hR4 => ?_
 try simp (maxSteps := 1000000) [List.take_succ_cons, List.take_zero, List.drop_succ_cons, List.drop_zero]
 repeat' (first | apply And.intro | intro _)
 any_goals (first | (refine hR4 _ ?_; clear hR4) | omega | (simp_all <;> omega))
 refine runs_cut 11 fun R5 hR5 => ?_
 try simp (maxSteps := 1000000) [List.take_succ_cons, List.take_zero, List.drop_succ_cons, List.drop_zero]
 repeat' (first | apply And.intro | intro _)
 any_goals (first | (refine hR5 _ ?_; clear hR5) | omega | (simp_all <;> omega))
 refine runs_cut 1 fun R6 hR6 => ?_
 try simp (maxSteps := 1000000) [List.take_succ_cons, List.take_zero, List.drop_succ_cons, List.drop_zero]
 first | refine .inl ⟨_, by (intros; exact Or.inl (equal_ok x.co y.co (by omega))), ?_⟩ | refine .inl ⟨_, fun hb => .inl (equal_ok x.co y.co (by omega)), ?_⟩
 repeat' (first | apply And.intro | intro _)
 any_goals (first | (refine hR6 _ ?_; clear hR6) | omega | (simp_all <;> omega))
 try simp (maxSteps := 1000000) [List.take_succ_cons, List.take_zero, List.drop_succ_cons, List.drop_zero]
 repeat' (first | apply And.intro | intro _)
 any_goals (first | (refine hK2 _ ?_; clear hK2) | omega | (simp_all <;> omega))
 refine swp_ret ?_
 simp [fnPost, Try.results48, resP, tupOf]
 try (first | exact fl_eq x y | exact (fl_eq x y).symm | (rw [fl_eq]; simp [Bool.and_assoc, and_assoc]))

set_option maxHeartbeats 2000000 in
theorem eqfF_ok (xs ys : List Fl) (hx : xs.length ≤ 1000000) (hw : ∀ w ∈ xs, w.co.length ≤ 1000000) : PCall Try.prog 47 [.ro (.rows 5 (xs.map Fl.row)), .ro (.rows 5 (ys.map Fl.row)), .fn 48 []] (.bool (decide (xs = ys))) := by
 refine pcall_body ty_ok Try.func47 rfl (by rfl) (by simp) ?_
 rw [Try.ntmps47]
 refine swp_seq fun K1 hK1 => ?_
 refine swp_region ty_ok ?_
 try simp (maxSteps := 1000000)
 repeat' (first | apply And.intro | intro _)
 any_goals (first | (refine hK1 _ ?_; clear hK1) | omega | (simp_all <;> omega))
 refine swp_seq fun K2 hK2 => ?_
 refine swp_seq fun K3 hK3 => ?_
 refine swp_region ty_ok ?_
 try simp (maxSteps := 1000000)
 repeat' (first | apply And.intro | intro _)
 any_goals (first | (refine hK3 _ ?_; clear hK3) | omega | (simp_all <;> omega))
 refine swp_if fun C4 hC4 => ?_
 try simp (maxSteps := 1000000)
 refine hC4 _ (fun hc4 => ?_) (fun hc4 => ?_)
 ·clear hC4
  try simp at hc4
  refine swp_seq fun K5 hK5 => ?_
  refine swp_region ty_ok ?_
  try simp (maxSteps := 1000000)
  repeat' (first | apply And.intro | intro _)
  any_goals (first | (refine hK5 _ ?_; clear hK5) | omega | (simp_all <;> omega))
  refine swp_ret ?_
  simp [fnPost, Try.results47, resP, tupOf]
  exact eqs_len (by omega)
 ·clear hC4
  try simp at hc4
  refine swp_skip ?_
  try simp only [thn, inBlk]
  refine hK2 _ ?_; clear hK2
  refine swp_seq fun K6 hK6 => ?_
  refine swp_seq fun K7 hK7 => ?_
  refine swp_region ty_ok ?_
  try simp (maxSteps := 1000000)
  repeat' (first | apply And.intro | intro _)
  any_goals (first | (refine hK7 _ ?_; clear hK7) | omega | (simp_all <;> omega))
  refine swp_block ?_
  refine swp_loop 0 (fun m_ s_ => ∃ (k : Nat), (k ≤ xs.length) ∧ (xs.length = ys.length) ∧ (∀ j < k, xs[j]?.getD default = ys[j]?.getD default) ∧ s_ = ⟨[(0, .ro (.rows 5 (xs.map Fl.row))), (1, .ro (.rows 5 (ys.map Fl.row))), (2, .fn 48 []), (15, .ro (.rows 5 (xs.map Fl.row))), (16, .int .i64 (xs.length : Nat)), (17, .int .i64 (k : Nat))], [], 0⟩ ∧ m_ = xs.length - k) _ ⟨[(0, .ro (.rows 5 (xs.map Fl.row))), (1, .ro (.rows 5 (ys.map Fl.row))), (2, .fn 48 []), (15, .ro (.rows 5 (xs.map Fl.row))), (16, .int .i64 (xs.length : Nat)), (17, .int .i64 (0 : Nat))], [], 0⟩ ⟨by simp [getT, PV.lo, lo1], by simp [getH, Blk.lo, Cells.lo, lo1], rfl, by omega⟩ ⟨(0), by omega, by omega, by simp, rfl, rfl⟩ ?_
  rintro m_ s_ ⟨k, hL8_0, hL8_1, hL8_2, rfl, rfl⟩ KL8 hL8
  have hkw : IntKind.i64.wrap ((k : Int) + 1) = (((k + 1 : Nat)) : Int) := wnext (by omega)
  refine swp_seq fun K9 hK9 => ?_
  refine swp_region ty_ok ?_
  try simp (maxSteps := 1000000)
  repeat' (first | apply And.intro | intro _)
  any_goals (first | (refine hK9 _ ?_; clear hK9) | omega | (simp_all <;> omega))
  refine swp_seq fun K10 hK10 => ?_
  refine swp_if fun C11 hC11 => ?_
  try simp (maxSteps := 1000000)
  refine hC11 _ (fun hc11 => ?_) (fun hc11 => ?_)
  ·clear hC11
   try simp at hc11
   refine swp_skip ?_
   try simp only [thn, inBlk]
   refine hK10 _ ?_; clear hK10
   refine swp_seq fun K12 hK12 => ?_
   refine swp_block ?_
   refine swp_seq fun K13 hK13 => ?_
   have hra := row_at (ws := xs) (k := k) (by omega)
   have hrb := row_at (ws := ys) (k := k) (by omega)
   have hwk := hw _ (mem_at (w := xs) (j := k) (by omega))
   refine swp_region ty_ok ?_
   try simp (maxSteps := 1000000) [hra]
   repeat' (first | apply And.intro | intro _)
   any_goals (first | (refine hK13 _ ?_; clear hK13) | omega | (simp_all <;> omega))
   refine swp_seq fun K14 hK14 => ?_
   refine swp_region ty_ok ?_
   try simp (maxSteps := 1000000) [hrb]
   repeat' (first | apply And.intro | intro _)
   any_goals (first | (refine hK14 _ ?_; clear hK14) | omega | (simp_all <;> omega))
   refine swp_seq fun K15 hK15 => ?_
   refine swp_region ty_ok ?_
   refine runs_cut 3 fun R16 hR16 => ?_
   try simp (maxSteps := 1000000) [List.take_succ_cons, List.take_zero, List.drop_succ_cons, List.drop_zero]
   repeat' (first | apply And.intro | intro _)
   any_goals (first | (refine hR16 _ ?_; clear hR16) | omega | (simp_all <;> omega))
   refine runs_cut 1 fun R17 hR17 => ?_
   try simp (maxSteps := 1000000) [List.take_succ_cons, List.take_zero, List.drop_succ_cons, List.drop_zero]
   refine .inl ⟨_, alike_ok (xs[k]?.getD default) (ys[k]?.getD default) hwk, ?_⟩
   try simp (maxSteps := 1000000)
   repeat' (first | apply And.intro | intro _)
   any_goals (first | (refine hR17 _ ?_; clear hR17) | omega | (simp_all <;> omega))
   try simp (maxSteps := 1000000) [List.take_succ_cons, List.take_zero, List.drop_succ_cons, List.drop_zero]
   repeat' (first | apply And.intro | intro _)
   any_goals (first | (refine hK15 _ ?_; clear hK15) | omega | (simp_all <;> omega))
   refine swp_if fun C18 hC18 => ?_
   try simp (maxSteps := 1000000)
   refine hC18 _ (fun hc18 => ?_) (fun hc18 => ?_)
   ·clear hC18
    try simp at hc18
    refine swp_seq fun K19 hK19 => ?_
    refine swp_region ty_ok ?_
    try simp (maxSteps := 1000000)
    repeat' (first | apply And.intro | intro _)
    any_goals (first | (refine hK19 _ ?_; clear hK19) | omega | (simp_all <;> omega))
    refine swp_ret ?_
    simp [fnPost, Try.results47, resP, tupOf]
    exact eqs_no default (k := k) (by assumption)
   ·clear hC18
    try simp at hc18
    refine swp_skip ?_
    try simp only [thn, inBlk]
    refine hK12 _ ?_; clear hK12
    refine swp_region ty_ok ?_
    try simp (maxSteps := 1000000)
    repeat' apply And.intro
    any_goals (try omega)
    refine hL8 _ ⟨[(0, .ro (.rows 5 (xs.map Fl.row))), (1, .ro (.rows 5 (ys.map Fl.row))), (2, .fn 48 []), (15, .ro (.rows 5 (xs.map Fl.row))), (16, .int .i64 (xs.length : Nat)), (17, .int .i64 ((k + 1) : Nat))], [], 0⟩ _ ?_ ⟨(k + 1), by omega, by omega, by (refine lt_step (by assumption) ?_; assumption), rfl, rfl⟩ ⟨by simp [getT, PV.lo, lo1, hkw], by simp [getH, Blk.lo, Cells.lo, lo1], rfl, by omega⟩
    omega
  ·clear hC11
   try simp at hc11
   refine swp_exit ?_
   simp [thn, inBlk]
   refine hK6 _ ?_; clear hK6
   refine swp_seq fun K20 hK20 => ?_
   refine swp_region ty_ok ?_
   try simp (maxSteps := 1000000)
   repeat' (first | apply And.intro | intro _)
   any_goals (first | (refine hK20 _ ?_; clear hK20) | omega | (simp_all <;> omega))
   refine swp_ret ?_
   simp [fnPost, Try.results47, resP, tupOf]
   exact eqs_yes default (by omega) (by omega) (by assumption)

theorem same1_ok (xs ys : List Fl) (hx : xs.length ≤ 1000000) (hw : ∀ w ∈ xs, w.co.length ≤ 1000000) : PCall Try.prog 46 [.ro (.rows 5 (xs.map Fl.row)), .ro (.rows 5 (ys.map Fl.row))] (.bool (decide (xs = ys))) := by
 refine pcall_body ty_ok Try.func46 rfl (by rfl) (by simp) ?_
 rw [Try.ntmps46]
 refine swp_seq fun K1 hK1 => ?_
 refine swp_region ty_ok ?_
 try simp (maxSteps := 1000000)
 repeat' (first | apply And.intro | intro _)
 any_goals (first | (refine hK1 _ ?_; clear hK1) | omega | (simp_all <;> omega))
 refine swp_seq fun K2 hK2 => ?_
 refine swp_region ty_ok ?_
 refine runs_cut 2 fun R3 hR3 => ?_
 try simp (maxSteps := 1000000) [List.take_succ_cons, List.take_zero, List.drop_succ_cons, List.drop_zero]
 repeat' (first | apply And.intro | intro _)
 any_goals (first | (refine hR3 _ ?_; clear hR3) | omega | (simp_all <;> omega))
 refine runs_cut 1 fun R4 hR4 => ?_
 try simp (maxSteps := 1000000) [List.take_succ_cons, List.take_zero, List.drop_succ_cons, List.drop_zero]
 refine .inl ⟨_, eqfF_ok xs ys hx hw, ?_⟩
 try simp (maxSteps := 1000000)
 repeat' (first | apply And.intro | intro _)
 any_goals (first | (refine hR4 _ ?_; clear hR4) | omega | (simp_all <;> omega))
 try simp (maxSteps := 1000000) [List.take_succ_cons, List.take_zero, List.drop_succ_cons, List.drop_zero]
 repeat' (first | apply And.intro | intro _)
 any_goals (first | (refine hK2 _ ?_; clear hK2) | omega | (simp_all <;> omega))
 refine swp_ret ?_
 simp [fnPost, Try.results46, resP, tupOf]

theorem eqfT_ok (xs ys : List (List Fl)) (hx : xs.length ≤ 1000000) (hw : ∀ w ∈ xs, w.length ≤ 1000000 ∧ ∀ f ∈ w, f.co.length ≤ 1000000) : PCall Try.prog 45 [.ro (.rows 1 (xs.map fun w => [PV.ro (.rows 5 (w.map Fl.row))])), .ro (.rows 1 (ys.map fun w => [PV.ro (.rows 5 (w.map Fl.row))])), .fn 46 []] (.bool (decide (xs = ys))) := by
 refine pcall_body ty_ok Try.func45 rfl (by rfl) (by simp) ?_
 rw [Try.ntmps45]
 refine swp_seq fun K1 hK1 => ?_
 refine swp_region ty_ok ?_
 try simp (maxSteps := 1000000)
 repeat' (first | apply And.intro | intro _)
 any_goals (first | (refine hK1 _ ?_; clear hK1) | omega | (simp_all <;> omega))
 refine swp_seq fun K2 hK2 => ?_
 refine swp_seq fun K3 hK3 => ?_
 refine swp_region ty_ok ?_
 try simp (maxSteps := 1000000)
 repeat' (first | apply And.intro | intro _)
 any_goals (first | (refine hK3 _ ?_; clear hK3) | omega | (simp_all <;> omega))
 refine swp_if fun C4 hC4 => ?_
 try simp (maxSteps := 1000000)
 refine hC4 _ (fun hc4 => ?_) (fun hc4 => ?_)
 ·clear hC4
  try simp at hc4
  refine swp_seq fun K5 hK5 => ?_
  refine swp_region ty_ok ?_
  try simp (maxSteps := 1000000)
  repeat' (first | apply And.intro | intro _)
  any_goals (first | (refine hK5 _ ?_; clear hK5) | omega | (simp_all <;> omega))
  refine swp_ret ?_
  simp [fnPost, Try.results45, resP, tupOf]
  exact eqs_len (by omega)
 ·clear hC4
  try simp at hc4
  refine swp_skip ?_
  try simp only [thn, inBlk]
  refine hK2 _ ?_; clear hK2
  refine swp_seq fun K6 hK6 => ?_
  refine swp_seq fun K7 hK7 => ?_
  refine swp_region ty_ok ?_
  try simp (maxSteps := 1000000)
  repeat' (first | apply And.intro | intro _)
  any_goals (first | (refine hK7 _ ?_; clear hK7) | omega | (simp_all <;> omega))
  refine swp_block ?_
  refine swp_loop 0 (fun m_ s_ => ∃ (k : Nat), (k ≤ xs.length) ∧ (xs.length = ys.length) ∧ (∀ j < k, xs[j]?.getD [] = ys[j]?.getD []) ∧ s_ = ⟨[(0, .ro (.rows 1 (xs.map fun w => [PV.ro (.rows 5 (w.map Fl.row))]))), (1, .ro (.rows 1 (ys.map fun w => [PV.ro (.rows 5 (w.map Fl.row))]))), (2, .fn 46 []), (15, .ro (.rows 1 (xs.map fun w => [PV.ro (.rows 5 (w.map Fl.row))]))), (16, .int .i64 (xs.length : Nat)), (17, .int .i64 (k : Nat))], [], 0⟩ ∧ m_ = xs.length - k) _ ⟨[(0, .ro (.rows 1 (xs.map fun w => [PV.ro (.rows 5 (w.map Fl.row))]))), (1, .ro (.rows 1 (ys.map fun w => [PV.ro (.rows 5 (w.map Fl.row))]))), (2, .fn 46 []), (15, .ro (.rows 1 (xs.map fun w => [PV.ro (.rows 5 (w.map Fl.row))]))), (16, .int .i64 (xs.length : Nat)), (17, .int .i64 (0 : Nat))], [], 0⟩ ⟨by simp [getT, PV.lo, lo1], by simp [getH, Blk.lo, Cells.lo, lo1], rfl, by omega⟩ ⟨(0), by omega, by omega, by simp, rfl, rfl⟩ ?_
  rintro m_ s_ ⟨k, hL8_0, hL8_1, hL8_2, rfl, rfl⟩ KL8 hL8
  have hkw : IntKind.i64.wrap ((k : Int) + 1) = (((k + 1 : Nat)) : Int) := wnext (by omega)
  refine swp_seq fun K9 hK9 => ?_
  refine swp_region ty_ok ?_
  try simp (maxSteps := 1000000)
  repeat' (first | apply And.intro | intro _)
  any_goals (first | (refine hK9 _ ?_; clear hK9) | omega | (simp_all <;> omega))
  refine swp_seq fun K10 hK10 => ?_
  refine swp_if fun C11 hC11 => ?_
  try simp (maxSteps := 1000000)
  refine hC11 _ (fun hc11 => ?_) (fun hc11 => ?_)
  ·clear hC11
   try simp at hc11
   refine swp_skip ?_
   try simp only [thn, inBlk]
   refine hK10 _ ?_; clear hK10
   refine swp_seq fun K12 hK12 => ?_
   refine swp_block ?_
   refine swp_seq fun K13 hK13 => ?_
   have hra := w_at (l := xs) (k := k) (by omega)
   have hrb := w_at (l := ys) (k := k) (by omega)
   have hwk := hw _ (mem_at (w := xs) (j := k) (by omega))
   refine swp_region ty_ok ?_
   try simp (maxSteps := 1000000) [hra]
   repeat' (first | apply And.intro | intro _)
   any_goals (first | (refine hK13 _ ?_; clear hK13) | omega | (simp_all <;> omega))
   refine swp_seq fun K14 hK14 => ?_
   refine swp_region ty_ok ?_
   try simp (maxSteps := 1000000) [hrb]
   repeat' (first | apply And.intro | intro _)
   any_goals (first | (refine hK14 _ ?_; clear hK14) | omega | (simp_all <;> omega))
   refine swp_seq fun K15 hK15 => ?_
   refine swp_region ty_ok ?_
   refine runs_cut 3 fun R16 hR16 => ?_
   try simp (maxSteps := 1000000) [List.take_succ_cons, List.take_zero, List.drop_succ_cons, List.drop_zero]
   repeat' (first | apply And.intro | intro _)
   any_goals (first | (refine hR16 _ ?_; clear hR16) | omega | (simp_all <;> omega))
   refine runs_cut 1 fun R17 hR17 => ?_
   try simp (maxSteps := 1000000) [List.take_succ_cons, List.take_zero, List.drop_succ_cons, List.drop_zero]
   refine .inl ⟨_, same1_ok _ _ hwk.1 hwk.2, ?_⟩
   try simp (maxSteps := 1000000)
   repeat' (first | apply And.intro | intro _)
   any_goals (first | (refine hR17 _ ?_; clear hR17) | omega | (simp_all <;> omega))
   try simp (maxSteps := 1000000) [List.take_succ_cons, List.take_zero, List.drop_succ_cons, List.drop_zero]
   repeat' (first | apply And.intro | intro _)
   any_goals (first | (refine hK15 _ ?_; clear hK15) | omega | (simp_all <;> omega))
   refine swp_if fun C18 hC18 => ?_
   try simp (maxSteps := 1000000)
   refine hC18 _ (fun hc18 => ?_) (fun hc18 => ?_)
   ·clear hC18
    try simp at hc18
    refine swp_seq fun K19 hK19 => ?_
    refine swp_region ty_ok ?_
    try simp (maxSteps := 1000000)
    repeat' (first | apply And.intro | intro _)
    any_goals (first | (refine hK19 _ ?_; clear hK19) | omega | (simp_all <;> omega))
    refine swp_ret ?_
    simp [fnPost, Try.results45, resP, tupOf]
    exact eqs_no [] (k := k) (by assumption)
   ·clear hC18
    try simp at hc18
    refine swp_skip ?_
    try simp only [thn, inBlk]
    refine hK12 _ ?_; clear hK12
    refine swp_region ty_ok ?_
    try simp (maxSteps := 1000000)
    repeat' apply And.intro
    any_goals (try omega)
    refine hL8 _ ⟨[(0, .ro (.rows 1 (xs.map fun w => [PV.ro (.rows 5 (w.map Fl.row))]))), (1, .ro (.rows 1 (ys.map fun w => [PV.ro (.rows 5 (w.map Fl.row))]))), (2, .fn 46 []), (15, .ro (.rows 1 (xs.map fun w => [PV.ro (.rows 5 (w.map Fl.row))]))), (16, .int .i64 (xs.length : Nat)), (17, .int .i64 ((k + 1) : Nat))], [], 0⟩ _ ?_ ⟨(k + 1), by omega, by omega, by (refine lt_step (by assumption) ?_; assumption), rfl, rfl⟩ ⟨by simp [getT, PV.lo, lo1, hkw], by simp [getH, Blk.lo, Cells.lo, lo1], rfl, by omega⟩
    omega
  ·clear hC11
   try simp at hc11
   refine swp_exit ?_
   simp [thn, inBlk]
   refine hK6 _ ?_; clear hK6
   refine swp_seq fun K20 hK20 => ?_
   refine swp_region ty_ok ?_
   try simp (maxSteps := 1000000)
   repeat' (first | apply And.intro | intro _)
   any_goals (first | (refine hK20 _ ?_; clear hK20) | omega | (simp_all <;> omega))
   refine swp_ret ?_
   simp [fnPost, Try.results45, resP, tupOf]
   exact eqs_yes [] (by omega) (by omega) (by assumption)

set_option maxHeartbeats 4000000 in
theorem lsame_ok (ga s sh m : Int) (g : List Int) (se : List (List Sc)) (st : List (List Int)) (tn : List (List Fl)) (ln : List Int) (ga2 s2 sj m2 : Int) (g2 : List Int) (se2 : List (List Sc)) (st2 : List (List Int)) (tn2 : List (List Fl)) (ln2 : List Int) (hl : LenOk g se st tn) (hln : ln.length ≤ 1000000) : PCall Try.prog 16 [.agg [.int .i64 ga, .int .u8 s, .int .u8 sh, .int .i64 m, .ro (.ints .i64 g), .ro (.rows 1 (se.map fun w => [.ro (.rows 2 (w.map Sc.row))])), .ro (.rows 1 (st.map fun w => [.ro (.ints .i64 w)])), .ro (.rows 1 (tn.map fun w => [.ro (.rows 5 (w.map Fl.row))])), .ro (.ints .i64 ln)], .agg [.int .i64 ga2, .int .u8 s2, .int .u8 sj, .int .i64 m2, .ro (.ints .i64 g2), .ro (.rows 1 (se2.map fun w => [.ro (.rows 2 (w.map Sc.row))])), .ro (.rows 1 (st2.map fun w => [.ro (.ints .i64 w)])), .ro (.rows 1 (tn2.map fun w => [.ro (.rows 5 (w.map Fl.row))])), .ro (.ints .i64 ln2)]] (.bool (decide (ga = ga2) && (decide (s = s2) && decide (sh = sj) && decide (m = m2) && decide (g = g2)) && decide (ln = ln2) && (decide (se = se2) && decide (st = st2)) && decide (tn = tn2))) := by
 obtain ⟨⟨hl1, hl2, hl3, hl4⟩, hl5, hl6, hl7⟩ := hl
 have hI := info_Same_ok s sh m s2 sj m2 g g2 (by omega)
 have hL := equal_ok ln ln2 (by omega)
 have hS := eqfS_ok se se2 (by omega) (fun w hw => by have := hl5 w hw; omega)
 have hT := eqfI_ok st st2 (by omega) (fun w hw => by have := hl6 w hw; omega)
 have hN := eqfT_ok tn tn2 (by omega) (fun w hw => ⟨by have := (hl7 w hw).1; omega, fun f hf => by have := (hl7 w hw).2 f hf; omega⟩)
 refine pcall_body ty_ok Try.func16 rfl (by rfl) (by simp) ?_
 rw [Try.ntmps16]
 refine swp_seq fun K1 hK1 => ?_
 refine swp_region ty_ok ?_
 try simp (maxSteps := 1000000)
 repeat' (first | apply And.intro | intro _)
 any_goals (first | (refine hK1 _ ?_; clear hK1) | omega | (simp_all <;> omega))
 refine swp_seq fun K2 hK2 => ?_
 refine swp_region ty_ok ?_
 refine runs_cut 10 fun R3 hR3 => ?_
 try simp (maxSteps := 1000000) [List.take_succ_cons, List.take_zero, List.drop_succ_cons, List.drop_zero]
 repeat' (first | apply And.intro | intro _)
 any_goals (first | (refine hR3 _ ?_; clear hR3) | omega | (simp_all <;> omega))
 refine runs_cut 1 fun R4 hR4 => ?_
 try simp (maxSteps := 1000000) [List.take_succ_cons, List.take_zero, List.drop_succ_cons, List.drop_zero]
 first | refine .inl ⟨_, by (intros; exact Or.inl hI), ?_⟩ | refine .inl ⟨_, fun hb => .inl hI, ?_⟩
 repeat' (first | apply And.intro | intro _)
 any_goals (first | (refine hR4 _ ?_; clear hR4) | omega | (simp_all <;> omega))
 refine runs_cut 6 fun R5 hR5 => ?_
 try simp (maxSteps := 1000000) [List.take_succ_cons, List.take_zero, List.drop_succ_cons, List.drop_zero]
 repeat' (first | apply And.intro | intro _)
 any_goals (first | (refine hR5 _ ?_; clear hR5) | omega | (simp_all <;> omega))
 refine runs_cut 1 fun R6 hR6 => ?_
 try simp (maxSteps := 1000000) [List.take_succ_cons, List.take_zero, List.drop_succ_cons, List.drop_zero]
 first | refine .inl ⟨_, by (intros; exact Or.inl hL), ?_⟩ | refine .inl ⟨_, fun hb => .inl hL, ?_⟩
 repeat' (first | apply And.intro | intro _)
 any_goals (first | (refine hR6 _ ?_; clear hR6) | omega | (simp_all <;> omega))
 try simp (maxSteps := 1000000) [List.take_succ_cons, List.take_zero, List.drop_succ_cons, List.drop_zero]
 repeat' (first | apply And.intro | intro _)
 any_goals (first | (refine hK2 _ ?_; clear hK2) | omega | (simp_all <;> omega))
 refine swp_seq fun K7 hK7 => ?_
 refine swp_region ty_ok ?_
 refine runs_cut 4 fun R8 hR8 => ?_
 try simp (maxSteps := 1000000) [List.take_succ_cons, List.take_zero, List.drop_succ_cons, List.drop_zero]
 repeat' (first | apply And.intro | intro _)
 any_goals (first | (refine hR8 _ ?_; clear hR8) | omega | (simp_all <;> omega))
 refine runs_cut 1 fun R9 hR9 => ?_
 try simp (maxSteps := 1000000) [List.take_succ_cons, List.take_zero, List.drop_succ_cons, List.drop_zero]
 refine .inl ⟨_, hS, ?_⟩
 try simp (maxSteps := 1000000)
 repeat' (first | apply And.intro | intro _)
 any_goals (first | (refine hR9 _ ?_; clear hR9) | omega | (simp_all <;> omega))
 refine runs_cut 5 fun R10 hR10 => ?_
 try simp (maxSteps := 1000000) [List.take_succ_cons, List.take_zero, List.drop_succ_cons, List.drop_zero]
 repeat' (first | apply And.intro | intro _)
 any_goals (first | (refine hR10 _ ?_; clear hR10) | omega | (simp_all <;> omega))
 refine runs_cut 1 fun R11 hR11 => ?_
 try simp (maxSteps := 1000000) [List.take_succ_cons, List.take_zero, List.drop_succ_cons, List.drop_zero]
 first | refine .inl ⟨_, by (intros; exact Or.inl hT), ?_⟩ | refine .inl ⟨_, fun hb => .inl hT, ?_⟩
 repeat' (first | apply And.intro | intro _)
 any_goals (first | (refine hR11 _ ?_; clear hR11) | omega | (simp_all <;> omega))
 try simp (maxSteps := 1000000) [List.take_succ_cons, List.take_zero, List.drop_succ_cons, List.drop_zero]
 repeat' (first | apply And.intro | intro _)
 any_goals (first | (refine hK7 _ ?_; clear hK7) | omega | (simp_all <;> omega))
 refine swp_seq fun K12 hK12 => ?_
 refine swp_region ty_ok ?_
 refine runs_cut 9 fun R13 hR13 => ?_
 try simp (maxSteps := 1000000) [List.take_succ_cons, List.take_zero, List.drop_succ_cons, List.drop_zero]
 repeat' (first | apply And.intro | intro _)
 any_goals (first | (refine hR13 _ ?_; clear hR13) | omega | (simp_all <;> omega))
 refine runs_cut 1 fun R14 hR14 => ?_
 try simp (maxSteps := 1000000) [List.take_succ_cons, List.take_zero, List.drop_succ_cons, List.drop_zero]
 first | refine .inl ⟨_, by (intros; exact Or.inl hN), ?_⟩ | refine .inl ⟨_, fun hb => .inl hN, ?_⟩
 repeat' (first | apply And.intro | intro _)
 any_goals (first | (refine hR14 _ ?_; clear hR14) | omega | (simp_all <;> omega))
 try simp (maxSteps := 1000000) [List.take_succ_cons, List.take_zero, List.drop_succ_cons, List.drop_zero]
 repeat' (first | apply And.intro | intro _)
 any_goals (first | (refine hK12 _ ?_; clear hK12) | omega | (simp_all <;> omega))
 refine swp_ret ?_
 simp [fnPost, Try.results16, resP, tupOf]
 try simp [Bool.and_assoc]

set_option maxHeartbeats 2000000 in
theorem rsameS_ok (xs ys : List (List Sc)) (hx : xs.length ≤ 1000000) (hw : ∀ w ∈ xs, w.length ≤ 1000000) : PCall Try.prog 51 [.ro (.rows 1 (xs.map fun w => [PV.ro (.rows 2 (w.map Sc.row))])), .ro (.rows 1 (ys.map fun w => [PV.ro (.rows 2 (w.map Sc.row))]))] (.bool (decide (xs = ys))) := by
 refine pcall_body ty_ok Try.func51 rfl (by rfl) (by simp) ?_
 rw [Try.ntmps51]
 refine swp_seq fun K1 hK1 => ?_
 refine swp_region ty_ok ?_
 try simp (maxSteps := 1000000)
 repeat' (first | apply And.intro | intro _)
 any_goals (first | (refine hK1 _ ?_; clear hK1) | omega | (simp_all <;> omega))
 refine swp_seq fun K2 hK2 => ?_
 refine swp_seq fun K3 hK3 => ?_
 refine swp_region ty_ok ?_
 try simp (maxSteps := 1000000)
 repeat' (first | apply And.intro | intro _)
 any_goals (first | (refine hK3 _ ?_; clear hK3) | omega | (simp_all <;> omega))
 refine swp_if fun C4 hC4 => ?_
 try simp (maxSteps := 1000000)
 refine hC4 _ (fun hc4 => ?_) (fun hc4 => ?_)
 ·clear hC4
  try simp at hc4
  refine swp_seq fun K5 hK5 => ?_
  refine swp_region ty_ok ?_
  try simp (maxSteps := 1000000)
  repeat' (first | apply And.intro | intro _)
  any_goals (first | (refine hK5 _ ?_; clear hK5) | omega | (simp_all <;> omega))
  refine swp_ret ?_
  simp [fnPost, Try.results51, resP, tupOf]
  exact eqs_len (by omega)
 ·clear hC4
  try simp at hc4
  refine swp_skip ?_
  try simp only [thn, inBlk]
  refine hK2 _ ?_; clear hK2
  refine swp_seq fun K6 hK6 => ?_
  refine swp_seq fun K7 hK7 => ?_
  refine swp_region ty_ok ?_
  try simp (maxSteps := 1000000)
  repeat' (first | apply And.intro | intro _)
  any_goals (first | (refine hK7 _ ?_; clear hK7) | omega | (simp_all <;> omega))
  refine swp_block ?_
  refine swp_loop 0 (fun m_ s_ => ∃ (k : Nat), (k ≤ xs.length) ∧ (xs.length = ys.length) ∧ (∀ j < k, xs[j]?.getD [] = ys[j]?.getD []) ∧ s_ = ⟨[(0, .ro (.rows 1 (xs.map fun w => [PV.ro (.rows 2 (w.map Sc.row))]))), (1, .ro (.rows 1 (ys.map fun w => [PV.ro (.rows 2 (w.map Sc.row))]))), (5, .int .i64 (k : Nat))], [], 0⟩ ∧ m_ = xs.length - k) _ ⟨[(0, .ro (.rows 1 (xs.map fun w => [PV.ro (.rows 2 (w.map Sc.row))]))), (1, .ro (.rows 1 (ys.map fun w => [PV.ro (.rows 2 (w.map Sc.row))]))), (5, .int .i64 (0 : Nat))], [], 0⟩ ⟨by simp [getT, PV.lo, lo1], by simp [getH, Blk.lo, Cells.lo, lo1], rfl, by omega⟩ ⟨(0), by omega, by omega, by simp, rfl, rfl⟩ ?_
  rintro m_ s_ ⟨k, hL8_0, hL8_1, hL8_2, rfl, rfl⟩ KL8 hL8
  have hkw : IntKind.i64.wrap ((k : Int) + 1) = (((k + 1 : Nat)) : Int) := wnext (by omega)
  refine swp_seq fun K9 hK9 => ?_
  refine swp_seq fun K10 hK10 => ?_
  refine swp_region ty_ok ?_
  try simp (maxSteps := 1000000)
  repeat' (first | apply And.intro | intro _)
  any_goals (first | (refine hK10 _ ?_; clear hK10) | omega | (simp_all <;> omega))
  refine swp_if fun C11 hC11 => ?_
  try simp (maxSteps := 1000000)
  refine hC11 _ (fun hc11 => ?_) (fun hc11 => ?_)
  ·clear hC11
   try simp at hc11
   refine swp_skip ?_
   try simp only [thn, inBlk]
   refine hK9 _ ?_; clear hK9
   refine swp_seq fun K12 hK12 => ?_
   refine swp_block ?_
   refine swp_seq fun K13 hK13 => ?_
   refine swp_seq fun K14 hK14 => ?_
   have hra := s_at (l := xs) (k := k) (by omega)
   have hrb := s_at (l := ys) (k := k) (by omega)
   have hwk : (xs[k]?.getD []).length ≤ 1000000 := hw _ (mem_at (w := xs) (j := k) (by omega))
   refine swp_draw ty_ok mixed (ms := [0, 0, 3, 7, 15, 0, 0, 96, 224, 480, 1023]) (by kernel_rfl) ?_
   try simp (maxSteps := 1000000) [hra, hrb]
   repeat' (first | apply And.intro | intro _)
   any_goals (first | kernel_rfl | (refine hK14 _ ?_; clear hK14) | omega | (simp_all <;> omega))
   refine swp_if fun C16 hC16 => ?_
   try simp (maxSteps := 1000000) [hra, hrb]
   refine hC16 _ (fun hc16 => ?_) (fun hc16 => ?_)
   ·clear hC16
    try simp at hc16
    refine swp_seq fun K17 hK17 => ?_
    refine swp_region ty_ok ?_
    try simp (maxSteps := 1000000)
    repeat' (first | apply And.intro | intro _)
    any_goals (first | (refine hK17 _ ?_; clear hK17) | omega | (simp_all <;> omega))
    refine swp_ret ?_
    simp [fnPost, Try.results51, resP, tupOf]
    exact eqs_no [] (k := k) (eqs_len (by omega))
   ·clear hC16
    try simp at hc16
    refine swp_skip ?_
    try simp only [thn, inBlk]
    refine hK13 _ ?_; clear hK13
    refine swp_seq fun K18 hK18 => ?_
    refine swp_region ty_ok ?_
    try simp (maxSteps := 1000000)
    repeat' (first | apply And.intro | intro _)
    any_goals (first | (refine hK18 _ ?_; clear hK18) | omega | (simp_all <;> omega))
    refine swp_block ?_
    refine swp_loop 0 (fun m_ s_ => ∃ (i : Nat), (i ≤ (xs[k]?.getD []).length) ∧ ((xs[k]?.getD []).length = (ys[k]?.getD []).length) ∧ (∀ j < i, (xs[k]?.getD [])[j]?.getD default = (ys[k]?.getD [])[j]?.getD default) ∧ s_ = ⟨[(0, .ro (.rows 1 (xs.map fun w => [PV.ro (.rows 2 (w.map Sc.row))]))), (1, .ro (.rows 1 (ys.map fun w => [PV.ro (.rows 2 (w.map Sc.row))]))), (5, .int .i64 (k : Nat)), (6, .int .i64 (i : Nat))], [], 0⟩ ∧ m_ = (xs[k]?.getD []).length - i) _ ⟨[(0, .ro (.rows 1 (xs.map fun w => [PV.ro (.rows 2 (w.map Sc.row))]))), (1, .ro (.rows 1 (ys.map fun w => [PV.ro (.rows 2 (w.map Sc.row))]))), (5, .int .i64 (k : Nat)), (6, .int .i64 (0 : Nat))], [], 0⟩ ⟨by simp [getT, PV.lo, lo1], by simp [getH, Blk.lo, Cells.lo, lo1], rfl, by omega⟩ ⟨(0), by omega, by omega, by simp, rfl, rfl⟩ ?_
    rintro m_ s_ ⟨i, hL19_0, hL19_1, hL19_2, rfl, rfl⟩ KL19 hL19
    have hiw : IntKind.i64.wrap ((i : Int) + 1) = (((i + 1 : Nat)) : Int) := wnext (by omega)
    refine swp_seq fun K20 hK20 => ?_
    refine swp_seq fun K21 hK21 => ?_
    refine swp_region ty_ok ?_
    try simp (maxSteps := 1000000) [hra, hrb]
    repeat' (first | apply And.intro | intro _)
    any_goals (first | (refine hK21 _ ?_; clear hK21) | omega | (simp_all <;> omega))
    refine swp_if fun C22 hC22 => ?_
    try simp (maxSteps := 1000000) [hra, hrb]
    refine hC22 _ (fun hc22 => ?_) (fun hc22 => ?_)
    ·clear hC22
     try simp at hc22
     refine swp_skip ?_
     try simp only [thn, inBlk]
     refine hK20 _ ?_; clear hK20
     refine swp_seq fun K23 hK23 => ?_
     refine swp_block ?_
     refine swp_seq fun K24 hK24 => ?_
     have hrc := sc_at (ws := (xs[k]?.getD [])) (k := i) (by omega)
     have hrd := sc_at (ws := (ys[k]?.getD [])) (k := i) (by omega)
     refine swp_draw ty_ok mixed (ms := [0, 0, 3, 7, 0, 31, 63, 0, 0, 384, 896, 0, 3968, 8064, 16383]) (by kernel_rfl) ?_
     refine runD_cut 7 fun R25 hR25 => ?_
     try simp (maxSteps := 1000000) [hra, hrb, hrc, hrd, List.take_succ_cons, List.take_zero, List.drop_succ_cons, List.drop_zero]
     repeat' (first | apply And.intro | intro _)
     any_goals (first | (refine hR25 _ _ _ _ ?_; clear hR25) | omega | (simp_all <;> omega))
     try simp (maxSteps := 1000000) [hra, hrb, hrc, hrd, List.take_succ_cons, List.take_zero, List.drop_succ_cons, List.drop_zero]
     repeat' (first | apply And.intro | intro _)
     any_goals (first | kernel_rfl | (refine hK24 _ ?_; clear hK24) | omega | (simp_all <;> omega))
     refine swp_if fun C27 hC27 => ?_
     try simp (maxSteps := 1000000) [hra, hrb, hrc, hrd]
     refine hC27 _ (fun hc27 => ?_) (fun hc27 => ?_)
     ·clear hC27
      try simp at hc27
      refine swp_seq fun K28 hK28 => ?_
      refine swp_region ty_ok ?_
      try simp (maxSteps := 1000000)
      repeat' (first | apply And.intro | intro _)
      any_goals (first | (refine hK28 _ ?_; clear hK28) | omega | (simp_all <;> omega))
      refine swp_ret ?_
      simp [fnPost, Try.results51, resP, tupOf]
      exact eqs_no [] (k := k) (eqs_no default (k := i) (ne_sc (by have h := hc27; intro hh; simp_all)))
     ·clear hC27
      try simp at hc27
      refine swp_skip ?_
      try simp only [thn, inBlk]
      refine hK23 _ ?_; clear hK23
      refine swp_region ty_ok ?_
      try simp (maxSteps := 1000000)
      repeat' apply And.intro
      any_goals (try omega)
      refine hL19 _ ⟨[(0, .ro (.rows 1 (xs.map fun w => [PV.ro (.rows 2 (w.map Sc.row))]))), (1, .ro (.rows 1 (ys.map fun w => [PV.ro (.rows 2 (w.map Sc.row))]))), (5, .int .i64 (k : Nat)), (6, .int .i64 ((i + 1) : Nat))], [], 0⟩ _ ?_ ⟨(i + 1), by omega, by omega, by (refine lt_step (by assumption) ?_; exact is_sc hc27), rfl, rfl⟩ ⟨by simp [getT, PV.lo, lo1, hiw], by simp [getH, Blk.lo, Cells.lo, lo1], rfl, by omega⟩
      omega
    ·clear hC22
     try simp at hc22
     refine swp_exit ?_
     simp [thn, inBlk]
     refine hK12 _ ?_; clear hK12
     refine swp_region ty_ok ?_
     try simp (maxSteps := 1000000)
     repeat' apply And.intro
     any_goals (try omega)
     refine hL8 _ ⟨[(0, .ro (.rows 1 (xs.map fun w => [PV.ro (.rows 2 (w.map Sc.row))]))), (1, .ro (.rows 1 (ys.map fun w => [PV.ro (.rows 2 (w.map Sc.row))]))), (5, .int .i64 ((k + 1) : Nat))], [], 0⟩ _ ?_ ⟨(k + 1), by omega, by omega, by (refine lt_step (by assumption) ?_; exact eqs_yes default (k := i) (by omega) (by omega) (by assumption)), rfl, rfl⟩ ⟨by simp [getT, PV.lo, lo1, hkw], by simp [getH, Blk.lo, Cells.lo, lo1], rfl, by omega⟩
     omega
  ·clear hC11
   try simp at hc11
   refine swp_exit ?_
   simp [thn, inBlk]
   refine hK6 _ ?_; clear hK6
   refine swp_seq fun K29 hK29 => ?_
   refine swp_region ty_ok ?_
   try simp (maxSteps := 1000000)
   repeat' (first | apply And.intro | intro _)
   any_goals (first | (refine hK29 _ ?_; clear hK29) | omega | (simp_all <;> omega))
   refine swp_ret ?_
   simp [fnPost, Try.results51, resP, tupOf]
   exact eqs_yes [] (by omega) (by omega) (by assumption)

set_option maxHeartbeats 2000000 in
theorem rsameI_ok (xs ys : List (List Int)) (hx : xs.length ≤ 1000000) (hw : ∀ w ∈ xs, w.length ≤ 1000000) : PCall Try.prog 52 [.ro (.rows 1 (xs.map fun w => [PV.ro (.ints .i64 w)])), .ro (.rows 1 (ys.map fun w => [PV.ro (.ints .i64 w)]))] (.bool (decide (xs = ys))) := by
 refine pcall_body ty_ok Try.func52 rfl (by rfl) (by simp) ?_
 rw [Try.ntmps52]
 refine swp_seq fun K1 hK1 => ?_
 refine swp_region ty_ok ?_
 try simp (maxSteps := 1000000)
 repeat' (first | apply And.intro | intro _)
 any_goals (first | (refine hK1 _ ?_; clear hK1) | omega | (simp_all <;> omega))
 refine swp_seq fun K2 hK2 => ?_
 refine swp_seq fun K3 hK3 => ?_
 refine swp_region ty_ok ?_
 try simp (maxSteps := 1000000)
 repeat' (first | apply And.intro | intro _)
 any_goals (first | (refine hK3 _ ?_; clear hK3) | omega | (simp_all <;> omega))
 refine swp_if fun C4 hC4 => ?_
 try simp (maxSteps := 1000000)
 refine hC4 _ (fun hc4 => ?_) (fun hc4 => ?_)
 ·clear hC4
  try simp at hc4
  refine swp_seq fun K5 hK5 => ?_
  refine swp_region ty_ok ?_
  try simp (maxSteps := 1000000)
  repeat' (first | apply And.intro | intro _)
  any_goals (first | (refine hK5 _ ?_; clear hK5) | omega | (simp_all <;> omega))
  refine swp_ret ?_
  simp [fnPost, Try.results52, resP, tupOf]
  exact eqs_len (by omega)
 ·clear hC4
  try simp at hc4
  refine swp_skip ?_
  try simp only [thn, inBlk]
  refine hK2 _ ?_; clear hK2
  refine swp_seq fun K6 hK6 => ?_
  refine swp_seq fun K7 hK7 => ?_
  refine swp_region ty_ok ?_
  try simp (maxSteps := 1000000)
  repeat' (first | apply And.intro | intro _)
  any_goals (first | (refine hK7 _ ?_; clear hK7) | omega | (simp_all <;> omega))
  refine swp_block ?_
  refine swp_loop 0 (fun m_ s_ => ∃ (k : Nat), (k ≤ xs.length) ∧ (xs.length = ys.length) ∧ (∀ j < k, xs[j]?.getD [] = ys[j]?.getD []) ∧ s_ = ⟨[(0, .ro (.rows 1 (xs.map fun w => [PV.ro (.ints .i64 w)]))), (1, .ro (.rows 1 (ys.map fun w => [PV.ro (.ints .i64 w)]))), (5, .int .i64 (k : Nat))], [], 0⟩ ∧ m_ = xs.length - k) _ ⟨[(0, .ro (.rows 1 (xs.map fun w => [PV.ro (.ints .i64 w)]))), (1, .ro (.rows 1 (ys.map fun w => [PV.ro (.ints .i64 w)]))), (5, .int .i64 (0 : Nat))], [], 0⟩ ⟨by simp [getT, PV.lo, lo1], by simp [getH, Blk.lo, Cells.lo, lo1], rfl, by omega⟩ ⟨(0), by omega, by omega, by simp, rfl, rfl⟩ ?_
  rintro m_ s_ ⟨k, hL8_0, hL8_1, hL8_2, rfl, rfl⟩ KL8 hL8
  have hkw : IntKind.i64.wrap ((k : Int) + 1) = (((k + 1 : Nat)) : Int) := wnext (by omega)
  refine swp_seq fun K9 hK9 => ?_
  refine swp_seq fun K10 hK10 => ?_
  refine swp_region ty_ok ?_
  try simp (maxSteps := 1000000)
  repeat' (first | apply And.intro | intro _)
  any_goals (first | (refine hK10 _ ?_; clear hK10) | omega | (simp_all <;> omega))
  refine swp_if fun C11 hC11 => ?_
  try simp (maxSteps := 1000000)
  refine hC11 _ (fun hc11 => ?_) (fun hc11 => ?_)
  ·clear hC11
   try simp at hc11
   refine swp_skip ?_
   try simp only [thn, inBlk]
   refine hK9 _ ?_; clear hK9
   refine swp_seq fun K12 hK12 => ?_
   refine swp_block ?_
   refine swp_seq fun K13 hK13 => ?_
   have hra := i_at (l := xs) (k := k) (by omega)
   have hrb := i_at (l := ys) (k := k) (by omega)
   have hwk : (xs[k]?.getD []).length ≤ 1000000 := hw _ (mem_at (w := xs) (j := k) (by omega))
   refine swp_draw ty_ok mixed (ms := [0, 0, 3, 7, 0, 0, 48, 112, 255, 511]) (by kernel_rfl) ?_
   refine runD_cut 8 fun R14 hR14 => ?_
   try simp (maxSteps := 1000000) [hra, hrb, List.take_succ_cons, List.take_zero, List.drop_succ_cons, List.drop_zero]
   repeat' (first | apply And.intro | intro _)
   any_goals (first | (refine hR14 _ _ _ _ ?_; clear hR14) | omega | (simp_all <;> omega))
   refine runD_cut 1 fun R15 hR15 => ?_
   try simp (maxSteps := 1000000) [hra, hrb, List.take_succ_cons, List.take_zero, List.drop_succ_cons, List.drop_zero]
   refine .inl ⟨_, reedpiperef06_Ints_ok (xs[k]?.getD []) (ys[k]?.getD []) (by omega), ?_⟩
   try simp (maxSteps := 1000000) [hra, hrb]
   repeat' (first | apply And.intro | intro _)
   any_goals (first | (refine hR15 _ _ _ _ ?_; clear hR15) | omega | (simp_all <;> omega))
   try simp (maxSteps := 1000000) [hra, hrb, List.take_succ_cons, List.take_zero, List.drop_succ_cons, List.drop_zero]
   repeat' (first | apply And.intro | intro _)
   any_goals (first | kernel_rfl | (refine hK13 _ ?_; clear hK13) | omega | (simp_all <;> omega))
   refine swp_if fun C17 hC17 => ?_
   try simp (maxSteps := 1000000) [hra, hrb]
   refine hC17 _ (fun hc17 => ?_) (fun hc17 => ?_)
   ·clear hC17
    try simp at hc17
    refine swp_seq fun K18 hK18 => ?_
    refine swp_region ty_ok ?_
    try simp (maxSteps := 1000000)
    repeat' (first | apply And.intro | intro _)
    any_goals (first | (refine hK18 _ ?_; clear hK18) | omega | (simp_all <;> omega))
    refine swp_ret ?_
    simp [fnPost, Try.results52, resP, tupOf]
    exact eqs_no [] (k := k) (by assumption)
   ·clear hC17
    try simp at hc17
    refine swp_skip ?_
    try simp only [thn, inBlk]
    refine hK12 _ ?_; clear hK12
    refine swp_region ty_ok ?_
    try simp (maxSteps := 1000000)
    repeat' apply And.intro
    any_goals (try omega)
    refine hL8 _ ⟨[(0, .ro (.rows 1 (xs.map fun w => [PV.ro (.ints .i64 w)]))), (1, .ro (.rows 1 (ys.map fun w => [PV.ro (.ints .i64 w)]))), (5, .int .i64 ((k + 1) : Nat))], [], 0⟩ _ ?_ ⟨(k + 1), by omega, by omega, by (refine lt_step (by assumption) ?_; assumption), rfl, rfl⟩ ⟨by simp [getT, PV.lo, lo1, hkw], by simp [getH, Blk.lo, Cells.lo, lo1], rfl, by omega⟩
    omega
  ·clear hC11
   try simp at hc11
   refine swp_exit ?_
   simp [thn, inBlk]
   refine hK6 _ ?_; clear hK6
   refine swp_seq fun K19 hK19 => ?_
   refine swp_region ty_ok ?_
   try simp (maxSteps := 1000000)
   repeat' (first | apply And.intro | intro _)
   any_goals (first | (refine hK19 _ ?_; clear hK19) | omega | (simp_all <;> omega))
   refine swp_ret ?_
   simp [fnPost, Try.results52, resP, tupOf]
   exact eqs_yes [] (by omega) (by omega) (by assumption)

set_option maxHeartbeats 4000000 in
theorem rsameN_ok (xs ys : List (List Fl)) (hx : xs.length ≤ 1000000) (hw : ∀ w ∈ xs, w.length ≤ 1000000 ∧ ∀ f ∈ w, f.co.length ≤ 1000000) : PCall Try.prog 26 [.ro (.rows 1 (xs.map fun w => [PV.ro (.rows 5 (w.map Fl.row))])), .ro (.rows 1 (ys.map fun w => [PV.ro (.rows 5 (w.map Fl.row))]))] (.bool (decide (xs = ys))) := by
 refine pcall_body ty_ok Try.func26 rfl (by rfl) (by simp) ?_
 rw [Try.ntmps26]
 refine swp_seq fun K1 hK1 => ?_
 refine swp_region ty_ok ?_
 try simp (maxSteps := 1000000)
 repeat' (first | apply And.intro | intro _)
 any_goals (first | (refine hK1 _ ?_; clear hK1) | omega | (simp_all <;> omega))
 refine swp_seq fun K2 hK2 => ?_
 refine swp_seq fun K3 hK3 => ?_
 refine swp_region ty_ok ?_
 try simp (maxSteps := 1000000)
 repeat' (first | apply And.intro | intro _)
 any_goals (first | (refine hK3 _ ?_; clear hK3) | omega | (simp_all <;> omega))
 refine swp_if fun C4 hC4 => ?_
 try simp (maxSteps := 1000000)
 refine hC4 _ (fun hc4 => ?_) (fun hc4 => ?_)
 ·clear hC4
  try simp at hc4
  refine swp_seq fun K5 hK5 => ?_
  refine swp_region ty_ok ?_
  try simp (maxSteps := 1000000)
  repeat' (first | apply And.intro | intro _)
  any_goals (first | (refine hK5 _ ?_; clear hK5) | omega | (simp_all <;> omega))
  refine swp_ret ?_
  simp [fnPost, Try.results26, resP, tupOf]
  exact eqs_len (by omega)
 ·clear hC4
  try simp at hc4
  refine swp_skip ?_
  try simp only [thn, inBlk]
  refine hK2 _ ?_; clear hK2
  refine swp_seq fun K6 hK6 => ?_
  refine swp_seq fun K7 hK7 => ?_
  refine swp_region ty_ok ?_
  try simp (maxSteps := 1000000)
  repeat' (first | apply And.intro | intro _)
  any_goals (first | (refine hK7 _ ?_; clear hK7) | omega | (simp_all <;> omega))
  refine swp_block ?_
  refine swp_loop 0 (fun m_ s_ => ∃ (k : Nat), (k ≤ xs.length) ∧ (xs.length = ys.length) ∧ (∀ j < k, xs[j]?.getD [] = ys[j]?.getD []) ∧ s_ = ⟨[(0, .ro (.rows 1 (xs.map fun w => [PV.ro (.rows 5 (w.map Fl.row))]))), (1, .ro (.rows 1 (ys.map fun w => [PV.ro (.rows 5 (w.map Fl.row))]))), (5, .int .i64 (k : Nat))], [], 0⟩ ∧ m_ = xs.length - k) _ ⟨[(0, .ro (.rows 1 (xs.map fun w => [PV.ro (.rows 5 (w.map Fl.row))]))), (1, .ro (.rows 1 (ys.map fun w => [PV.ro (.rows 5 (w.map Fl.row))]))), (5, .int .i64 (0 : Nat))], [], 0⟩ ⟨by simp [getT, PV.lo, lo1], by simp [getH, Blk.lo, Cells.lo, lo1], rfl, by omega⟩ ⟨(0), by omega, by omega, by simp, rfl, rfl⟩ ?_
  rintro m_ s_ ⟨k, hL8_0, hL8_1, hL8_2, rfl, rfl⟩ KL8 hL8
  have hkw : IntKind.i64.wrap ((k : Int) + 1) = (((k + 1 : Nat)) : Int) := wnext (by omega)
  refine swp_seq fun K9 hK9 => ?_
  refine swp_seq fun K10 hK10 => ?_
  refine swp_region ty_ok ?_
  try simp (maxSteps := 1000000)
  repeat' (first | apply And.intro | intro _)
  any_goals (first | (refine hK10 _ ?_; clear hK10) | omega | (simp_all <;> omega))
  refine swp_if fun C11 hC11 => ?_
  try simp (maxSteps := 1000000)
  refine hC11 _ (fun hc11 => ?_) (fun hc11 => ?_)
  ·clear hC11
   try simp at hc11
   refine swp_skip ?_
   try simp only [thn, inBlk]
   refine hK9 _ ?_; clear hK9
   refine swp_seq fun K12 hK12 => ?_
   refine swp_block ?_
   refine swp_seq fun K13 hK13 => ?_
   refine swp_seq fun K14 hK14 => ?_
   have hra := w_at (l := xs) (k := k) (by omega)
   have hrb := w_at (l := ys) (k := k) (by omega)
   obtain ⟨hwk, hwk2⟩ := hw _ (mem_at (w := xs) (j := k) (by omega))
   have hwk3 : (xs[k]?.getD []).length ≤ 1000000 := hwk
   refine swp_draw ty_ok mixed (ms := [0, 0, 3, 7, 15, 0, 0, 96, 224, 480, 1023]) (by kernel_rfl) ?_
   try simp (maxSteps := 1000000) [hra, hrb]
   repeat' (first | apply And.intro | intro _)
   any_goals (first | kernel_rfl | (refine hK14 _ ?_; clear hK14) | omega | (simp_all <;> omega))
   refine swp_if fun C16 hC16 => ?_
   try simp (maxSteps := 1000000) [hra, hrb]
   refine hC16 _ (fun hc16 => ?_) (fun hc16 => ?_)
   ·clear hC16
    try simp at hc16
    refine swp_seq fun K17 hK17 => ?_
    refine swp_region ty_ok ?_
    try simp (maxSteps := 1000000)
    repeat' (first | apply And.intro | intro _)
    any_goals (first | (refine hK17 _ ?_; clear hK17) | omega | (simp_all <;> omega))
    refine swp_ret ?_
    simp [fnPost, Try.results26, resP, tupOf]
    exact eqs_no [] (k := k) (eqs_len (by omega))
   ·clear hC16
    try simp at hc16
    refine swp_skip ?_
    try simp only [thn, inBlk]
    refine hK13 _ ?_; clear hK13
    refine swp_seq fun K18 hK18 => ?_
    refine swp_region ty_ok ?_
    try simp (maxSteps := 1000000)
    repeat' (first | apply And.intro | intro _)
    any_goals (first | (refine hK18 _ ?_; clear hK18) | omega | (simp_all <;> omega))
    refine swp_block ?_
    refine swp_loop 0 (fun m_ s_ => ∃ (i : Nat), (i ≤ (xs[k]?.getD []).length) ∧ ((xs[k]?.getD []).length = (ys[k]?.getD []).length) ∧ (∀ j < i, (xs[k]?.getD [])[j]?.getD default = (ys[k]?.getD [])[j]?.getD default) ∧ s_ = ⟨[(0, .ro (.rows 1 (xs.map fun w => [PV.ro (.rows 5 (w.map Fl.row))]))), (1, .ro (.rows 1 (ys.map fun w => [PV.ro (.rows 5 (w.map Fl.row))]))), (5, .int .i64 (k : Nat)), (6, .int .i64 (i : Nat))], [], 0⟩ ∧ m_ = (xs[k]?.getD []).length - i) _ ⟨[(0, .ro (.rows 1 (xs.map fun w => [PV.ro (.rows 5 (w.map Fl.row))]))), (1, .ro (.rows 1 (ys.map fun w => [PV.ro (.rows 5 (w.map Fl.row))]))), (5, .int .i64 (k : Nat)), (6, .int .i64 (0 : Nat))], [], 0⟩ ⟨by simp [getT, PV.lo, lo1], by simp [getH, Blk.lo, Cells.lo, lo1], rfl, by omega⟩ ⟨(0), by omega, by omega, by simp, rfl, rfl⟩ ?_
    rintro m_ s_ ⟨i, hL19_0, hL19_1, hL19_2, rfl, rfl⟩ KL19 hL19
    have hiw : IntKind.i64.wrap ((i : Int) + 1) = (((i + 1 : Nat)) : Int) := wnext (by omega)
    refine swp_seq fun K20 hK20 => ?_
    refine swp_seq fun K21 hK21 => ?_
    refine swp_region ty_ok ?_
    try simp (maxSteps := 1000000) [hra, hrb]
    repeat' (first | apply And.intro | intro _)
    any_goals (first | (refine hK21 _ ?_; clear hK21) | omega | (simp_all <;> omega))
    refine swp_if fun C22 hC22 => ?_
    try simp (maxSteps := 1000000) [hra, hrb]
    refine hC22 _ (fun hc22 => ?_) (fun hc22 => ?_)
    ·clear hC22
     try simp at hc22
     refine swp_skip ?_
     try simp only [thn, inBlk]
     refine hK20 _ ?_; clear hK20
     refine swp_seq fun K23 hK23 => ?_
     refine swp_block ?_
     refine swp_seq fun K24 hK24 => ?_
     have hrc := row_at (ws := (xs[k]?.getD [])) (k := i) (by omega)
     have hrd := row_at (ws := (ys[k]?.getD [])) (k := i) (by omega)
     have hwi : ((xs[k]?.getD [])[i]?.getD default).co.length ≤ 1000000 := hwk2 _ (mem_at (w := (xs[k]?.getD [])) (j := i) (by omega))
     refine swp_region ty_ok ?_
     try simp (maxSteps := 1000000) [hra, hrb, hrc, hrd]
     repeat' (first | apply And.intro | intro _)
     any_goals (first | (refine hK24 _ ?_; clear hK24) | omega | (simp_all <;> omega))
     refine swp_seq fun K25 hK25 => ?_
     refine swp_region ty_ok ?_
     try simp (maxSteps := 1000000) [hra, hrb, hrc, hrd]
     repeat' (first | apply And.intro | intro _)
     any_goals (first | (refine hK25 _ ?_; clear hK25) | omega | (simp_all <;> omega))
     refine swp_seq fun K26 hK26 => ?_
     refine swp_region ty_ok ?_
     refine runs_cut 10 fun R27 hR27 => ?_
     try simp (maxSteps := 1000000) [List.take_succ_cons, List.take_zero, List.drop_succ_cons, List.drop_zero]
     repeat' (first | apply And.intro | intro _)
     any_goals (first | (refine hR27 _ ?_; clear hR27) | omega | (simp_all <;> omega))
     refine runs_cut 10 fun R28 hR28 => ?_
     try simp (maxSteps := 1000000) [List.take_succ_cons, List.take_zero, List.drop_succ_cons, List.drop_zero]
     repeat' (first | apply And.intro | intro _)
     any_goals (first | (refine hR28 _ ?_; clear hR28) | omega | (simp_all <;> omega))
     refine runs_cut 11 fun R29 hR29 => ?_
     try simp (maxSteps := 1000000) [List.take_succ_cons, List.take_zero, List.drop_succ_cons, List.drop_zero]
     repeat' (first | apply And.intro | intro _)
     any_goals (first | (refine hR29 _ ?_; clear hR29) | omega | (simp_all <;> omega))
     refine runs_cut 1 fun R30 hR30 => ?_
     try simp (maxSteps := 1000000) [List.take_succ_cons, List.take_zero, List.drop_succ_cons, List.drop_zero]
     first | refine .inl ⟨_, fun hb => .inl ⟨reedpiperef06_Ints_ok ((xs[k]?.getD [])[i]?.getD default).co ((ys[k]?.getD [])[i]?.getD default).co (by omega), rfl⟩, ?_⟩ | refine .inl ⟨_, .inl ⟨reedpiperef06_Ints_ok ((xs[k]?.getD [])[i]?.getD default).co ((ys[k]?.getD [])[i]?.getD default).co (by omega), rfl⟩, ?_⟩ | refine .inl ⟨_, fun hb => .inl (reedpiperef06_Ints_ok ((xs[k]?.getD [])[i]?.getD default).co ((ys[k]?.getD [])[i]?.getD default).co (by omega)), ?_⟩ | refine .inl ⟨_, .inl (reedpiperef06_Ints_ok ((xs[k]?.getD [])[i]?.getD default).co ((ys[k]?.getD [])[i]?.getD default).co (by omega)), ?_⟩ | refine .inl ⟨_, by (intros; exact Or.inl (reedpiperef06_Ints_ok ((xs[k]?.getD [])[i]?.getD default).co ((ys[k]?.getD [])[i]?.getD default).co (by omega))), ?_⟩ | refine .inl ⟨_, by (intros; exact Or.inl ⟨reedpiperef06_Ints_ok ((xs[k]?.getD [])[i]?.getD default).co ((ys[k]?.getD [])[i]?.getD default).co (by omega), rfl⟩), ?_⟩ | refine .inl ⟨_, fun hb => .inl ⟨_, reedpiperef06_Ints_ok ((xs[k]?.getD [])[i]?.getD default).co ((ys[k]?.getD [])[i]?.getD default).co (by omega), by (try simp); exact ⟨rfl, rfl⟩⟩, ?_⟩ | refine ⟨_, fun hb => .inl ⟨reedpiperef06_Ints_ok ((xs[k]?.getD [])[i]?.getD default).co ((ys[k]?.getD [])[i]?.getD default).co (by omega), rfl⟩, ?_⟩ | refine ⟨_, .inl ⟨reedpiperef06_Ints_ok ((xs[k]?.getD [])[i]?.getD default).co ((ys[k]?.getD [])[i]?.getD default).co (by omega), rfl⟩, ?_⟩ | refine ⟨_, fun hb => .inl (reedpiperef06_Ints_ok ((xs[k]?.getD [])[i]?.getD default).co ((ys[k]?.getD [])[i]?.getD default).co (by omega)), ?_⟩ | refine ⟨_, .inl (reedpiperef06_Ints_ok ((xs[k]?.getD [])[i]?.getD default).co ((ys[k]?.getD [])[i]?.getD default).co (by omega)), ?_⟩ | refine ⟨_, by (intros; exact Or.inl (reedpiperef06_Ints_ok ((xs[k]?.getD [])[i]?.getD default).co ((ys[k]?.getD [])[i]?.getD default).co (by omega))), ?_⟩ | refine ⟨_, by (intros; exact Or.inl ⟨reedpiperef06_Ints_ok ((xs[k]?.getD [])[i]?.getD default).co ((ys[k]?.getD [])[i]?.getD default).co (by omega), rfl⟩), ?_⟩ | refine ⟨_, fun hb => .inl ⟨_, reedpiperef06_Ints_ok ((xs[k]?.getD [])[i]?.getD default).co ((ys[k]?.getD [])[i]?.getD default).co (by omega), by (try simp); exact ⟨rfl, rfl⟩⟩, ?_⟩
     repeat' (first | apply And.intro | intro _)
     any_goals (first | (refine hR30 _ ?_; clear hR30) | omega | (simp_all <;> omega))
     try simp (maxSteps := 1000000) [List.take_succ_cons, List.take_zero, List.drop_succ_cons, List.drop_zero]
     repeat' (first | apply And.intro | intro _)
     any_goals (first | (refine hK26 _ ?_; clear hK26) | omega | (simp_all <;> omega))
     refine swp_if fun C31 hC31 => ?_
     try simp (maxSteps := 1000000)
     refine hC31 _ (fun hc31 => ?_) (fun hc31 => ?_)
     ·clear hC31
      try simp at hc31
      refine swp_seq fun K32 hK32 => ?_
      refine swp_region ty_ok ?_
      try simp (maxSteps := 1000000)
      repeat' (first | apply And.intro | intro _)
      any_goals (first | (refine hK32 _ ?_; clear hK32) | omega | (simp_all <;> omega))
      refine swp_ret ?_
      simp [fnPost, Try.results26, resP, tupOf]
      exact eqs_no [] (k := k) (eqs_no default (k := i) (ne_fl hc31))
     ·clear hC31
      try simp at hc31
      refine swp_skip ?_
      try simp only [thn, inBlk]
      refine hK23 _ ?_; clear hK23
      refine swp_region ty_ok ?_
      try simp (maxSteps := 1000000)
      repeat' apply And.intro
      any_goals (try omega)
      refine hL19 _ ⟨[(0, .ro (.rows 1 (xs.map fun w => [PV.ro (.rows 5 (w.map Fl.row))]))), (1, .ro (.rows 1 (ys.map fun w => [PV.ro (.rows 5 (w.map Fl.row))]))), (5, .int .i64 (k : Nat)), (6, .int .i64 ((i + 1) : Nat))], [], 0⟩ _ ?_ ⟨(i + 1), by omega, by omega, by (refine lt_step (by assumption) ?_; exact is_fl hc31), rfl, rfl⟩ ⟨by simp [getT, PV.lo, lo1, hiw], by simp [getH, Blk.lo, Cells.lo, lo1], rfl, by omega⟩
      omega
    ·clear hC22
     try simp at hc22
     refine swp_exit ?_
     simp [thn, inBlk]
     refine hK12 _ ?_; clear hK12
     refine swp_region ty_ok ?_
     try simp (maxSteps := 1000000)
     repeat' apply And.intro
     any_goals (try omega)
     refine hL8 _ ⟨[(0, .ro (.rows 1 (xs.map fun w => [PV.ro (.rows 5 (w.map Fl.row))]))), (1, .ro (.rows 1 (ys.map fun w => [PV.ro (.rows 5 (w.map Fl.row))]))), (5, .int .i64 ((k + 1) : Nat))], [], 0⟩ _ ?_ ⟨(k + 1), by omega, by omega, by (refine lt_step (by assumption) ?_; exact eqs_yes default (k := i) (by omega) (by omega) (by assumption)), rfl, rfl⟩ ⟨by simp [getT, PV.lo, lo1, hkw], by simp [getH, Blk.lo, Cells.lo, lo1], rfl, by omega⟩
     omega
  ·clear hC11
   try simp at hc11
   refine swp_exit ?_
   simp [thn, inBlk]
   refine hK6 _ ?_; clear hK6
   refine swp_seq fun K33 hK33 => ?_
   refine swp_region ty_ok ?_
   try simp (maxSteps := 1000000)
   repeat' (first | apply And.intro | intro _)
   any_goals (first | (refine hK33 _ ?_; clear hK33) | omega | (simp_all <;> omega))
   refine swp_ret ?_
   simp [fnPost, Try.results26, resP, tupOf]
   exact eqs_yes [] (by omega) (by omega) (by assumption)

set_option maxHeartbeats 4000000 in
theorem rsame_ok (ga s sh m : Int) (g : List Int) (se : List (List Sc)) (st : List (List Int)) (tn : List (List Fl)) (ln : List Int) (ga2 s2 sj m2 : Int) (g2 : List Int) (se2 : List (List Sc)) (st2 : List (List Int)) (tn2 : List (List Fl)) (ln2 : List Int) (hl : LenOk g se st tn) (hln : ln.length ≤ 1000000) : PCall Try.prog 17 [.agg [.int .i64 ga, .int .u8 s, .int .u8 sh, .int .i64 m, .ro (.ints .i64 g), .ro (.rows 1 (se.map fun w => [.ro (.rows 2 (w.map Sc.row))])), .ro (.rows 1 (st.map fun w => [.ro (.ints .i64 w)])), .ro (.rows 1 (tn.map fun w => [.ro (.rows 5 (w.map Fl.row))])), .ro (.ints .i64 ln)], .agg [.int .i64 ga2, .int .u8 s2, .int .u8 sj, .int .i64 m2, .ro (.ints .i64 g2), .ro (.rows 1 (se2.map fun w => [.ro (.rows 2 (w.map Sc.row))])), .ro (.rows 1 (st2.map fun w => [.ro (.ints .i64 w)])), .ro (.rows 1 (tn2.map fun w => [.ro (.rows 5 (w.map Fl.row))])), .ro (.ints .i64 ln2)]] (.bool (decide (ga = ga2) && (decide (s = s2) && decide (sh = sj) && decide (m = m2) && decide (g = g2)) && decide (ln = ln2) && (decide (se = se2) && decide (st = st2)) && decide (tn = tn2))) := by
 obtain ⟨⟨hl1, hl2, hl3, hl4⟩, hl5, hl6, hl7⟩ := hl
 have hI := reedpiperef10_Same_ok s sh m s2 sj m2 g g2 (by omega)
 have hL := reedpiperef06_Ints_ok ln ln2 (by omega)
 have hS := rsameS_ok se se2 (by omega) (fun w hw => by have := hl5 w hw; omega)
 have hT := rsameI_ok st st2 (by omega) (fun w hw => by have := hl6 w hw; omega)
 have hN := rsameN_ok tn tn2 (by omega) (fun w hw => ⟨by have := (hl7 w hw).1; omega, fun f hf => by have := (hl7 w hw).2 f hf; omega⟩)
 refine pcall_body ty_ok Try.func17 rfl (by rfl) (by simp) ?_
 rw [Try.ntmps17]
 refine swp_seq fun K1 hK1 => ?_
 refine swp_region ty_ok ?_
 try simp (maxSteps := 1000000)
 repeat' (first | apply And.intro | intro _)
 any_goals (first | (refine hK1 _ ?_; clear hK1) | omega | (simp_all <;> omega))
 refine swp_seq fun K2 hK2 => ?_
 refine swp_region ty_ok ?_
 refine runs_cut 10 fun R3 hR3 => ?_
 try simp (maxSteps := 1000000) [List.take_succ_cons, List.take_zero, List.drop_succ_cons, List.drop_zero]
 repeat' (first | apply And.intro | intro _)
 any_goals (first | (refine hR3 _ ?_; clear hR3) | omega | (simp_all <;> omega))
 refine runs_cut 1 fun R4 hR4 => ?_
 try simp (maxSteps := 1000000) [List.take_succ_cons, List.take_zero, List.drop_succ_cons, List.drop_zero]
 first | refine .inl ⟨_, by (intros; exact Or.inl hI), ?_⟩ | refine .inl ⟨_, fun hb => .inl hI, ?_⟩
 repeat' (first | apply And.intro | intro _)
 any_goals (first | (refine hR4 _ ?_; clear hR4) | omega | (simp_all <;> omega))
 refine runs_cut 6 fun R5 hR5 => ?_
 try simp (maxSteps := 1000000) [List.take_succ_cons, List.take_zero, List.drop_succ_cons, List.drop_zero]
 repeat' (first | apply And.intro | intro _)
 any_goals (first | (refine hR5 _ ?_; clear hR5) | omega | (simp_all <;> omega))
 refine runs_cut 1 fun R6 hR6 => ?_
 try simp (maxSteps := 1000000) [List.take_succ_cons, List.take_zero, List.drop_succ_cons, List.drop_zero]
 first | refine .inl ⟨_, by (intros; exact Or.inl hL), ?_⟩ | refine .inl ⟨_, fun hb => .inl hL, ?_⟩
 repeat' (first | apply And.intro | intro _)
 any_goals (first | (refine hR6 _ ?_; clear hR6) | omega | (simp_all <;> omega))
 refine runs_cut 6 fun R7 hR7 => ?_
 try simp (maxSteps := 1000000) [List.take_succ_cons, List.take_zero, List.drop_succ_cons, List.drop_zero]
 repeat' (first | apply And.intro | intro _)
 any_goals (first | (refine hR7 _ ?_; clear hR7) | omega | (simp_all <;> omega))
 refine runs_cut 1 fun R8 hR8 => ?_
 try simp (maxSteps := 1000000) [List.take_succ_cons, List.take_zero, List.drop_succ_cons, List.drop_zero]
 first | refine .inl ⟨_, by (intros; exact Or.inl hS), ?_⟩ | refine .inl ⟨_, fun hb => .inl hS, ?_⟩
 repeat' (first | apply And.intro | intro _)
 any_goals (first | (refine hR8 _ ?_; clear hR8) | omega | (simp_all <;> omega))
 refine runs_cut 6 fun R9 hR9 => ?_
 try simp (maxSteps := 1000000) [List.take_succ_cons, List.take_zero, List.drop_succ_cons, List.drop_zero]
 repeat' (first | apply And.intro | intro _)
 any_goals (first | (refine hR9 _ ?_; clear hR9) | omega | (simp_all <;> omega))
 refine runs_cut 1 fun R10 hR10 => ?_
 try simp (maxSteps := 1000000) [List.take_succ_cons, List.take_zero, List.drop_succ_cons, List.drop_zero]
 first | refine .inl ⟨_, by (intros; exact Or.inl hT), ?_⟩ | refine .inl ⟨_, fun hb => .inl hT, ?_⟩
 repeat' (first | apply And.intro | intro _)
 any_goals (first | (refine hR10 _ ?_; clear hR10) | omega | (simp_all <;> omega))
 refine runs_cut 6 fun R11 hR11 => ?_
 try simp (maxSteps := 1000000) [List.take_succ_cons, List.take_zero, List.drop_succ_cons, List.drop_zero]
 repeat' (first | apply And.intro | intro _)
 any_goals (first | (refine hR11 _ ?_; clear hR11) | omega | (simp_all <;> omega))
 refine runs_cut 1 fun R12 hR12 => ?_
 try simp (maxSteps := 1000000) [List.take_succ_cons, List.take_zero, List.drop_succ_cons, List.drop_zero]
 first | refine .inl ⟨_, by (intros; exact Or.inl hN), ?_⟩ | refine .inl ⟨_, fun hb => .inl hN, ?_⟩
 repeat' (first | apply And.intro | intro _)
 any_goals (first | (refine hR12 _ ?_; clear hR12) | omega | (simp_all <;> omega))
 try simp (maxSteps := 1000000) [List.take_succ_cons, List.take_zero, List.drop_succ_cons, List.drop_zero]
 repeat' (first | apply And.intro | intro _)
 any_goals (first | (refine hK2 _ ?_; clear hK2) | omega | (simp_all <;> omega))
 refine swp_ret ?_
 simp [fnPost, Try.results17, resP, tupOf]
 try simp [Bool.and_assoc]

end Go.Proofs.Ytmkgfgdipkagbaa

