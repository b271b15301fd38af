import Derived.Test.YtmkgfgdipkagbaaWb
import Derived.Test.YtmkgfgdipkagbaaTyl
import Derived.Test.YtmkgfgdipkagbaaLband
import Derived.Test.YtmkgfgdipkagbaaLinfo
import Derived.Test.YtmkgfgdipkagbaaLinfo2
import Derived.Test.YtmkgfgdipkagbaaLbits
import Derived.Test.YtmkgfgdipkagbaaLtns
import Derived.Test.YtmkgfgdipkagbaaLtnp
import Derived.Test.YtmkgfgdipkagbaaLtnl
import Derived.Test.YtmkgfgdipkagbaaLlan
import Derived.Test.YtmkgfgdipkagbaaLlan2
namespace Go.Proofs.Ytmkgfgdipkagbaa
set_option linter.unusedVariables false
set_option linter.unusedSimpArgs false
set_option maxRecDepth 10000
open Go Go.Pv


open Go.RowKit
theorem chI_zero {rate s sh m : Int} {g : List Int} (h : chI rate s sh m g = 0) : (0 ≤ rate ∧ rate ≤ 11) ∧ s ≤ 3 ∧ sh ≤ 1 ∧ 0 ≤ m ∧ m ≤ MB rate (decide (s = 2)) ∧ okG s g = true ∧ mayI rate s sh m g = true ∧ mayI 11 s sh m g = true := by
  by_cases hr : rate < 0 ∨ 11 < rate
  · rw [chI_no hr] at h; cases h
  · rw [chI_may (by omega)] at h
    cases hm : mayI rate s sh m g with
    | false => rw [hm] at h; cases h
    | true =>
      have h2 := hm
      unfold mayI at h2
      rw [Bool.and_eq_true, decide_eq_true_eq] at h2
      exact ⟨by omega, h2.1.1, h2.1.2.1, h2.1.2.2.1, h2.1.2.2.2, h2.2, rfl, mayI_mono (a := rate) (by omega) hm⟩
def okO (O : List Int) (wd : Int) : Bool := decide (2 ≤ O.length ∧ O.length ≤ 50) && (decide (O[0]?.getD 0 = 0) && (decide (O[O.length - 1]?.getD 0 = wd) && (List.range (O.length - 1)).all fun j => decide (O[j]?.getD 0 < O[j + 1]?.getD 0)))
theorem offs_okO : ∀ a : Fin 12, ∀ s : Bool, okO (offs (a.val : Int) s) (if s then 32 else 256) = true := by decide +kernel
structure OkO (O : List Int) (wd : Int) : Prop where
  len : 2 ≤ O.length ∧ O.length ≤ 50
  zero : O[0]?.getD 0 = 0
  last : O[O.length - 1]?.getD 0 = wd
  inc : ∀ j, j + 1 < O.length → O[j]?.getD 0 < O[j + 1]?.getD 0
theorem offs_fine {rate : Int} (h : 0 ≤ rate ∧ rate ≤ 11) (s : Bool) : OkO (offs rate s) (if s then 32 else 256) := by
  have := offs_okO ⟨rate.toNat, by omega⟩ s
  simp only [show ((rate.toNat : Nat) : Int) = rate by omega] at this
  unfold okO at this
  simp only [Bool.and_eq_true, decide_eq_true_eq, List.all_eq_true, List.mem_range] at this
  obtain ⟨h1, h2, h3, h4⟩ := this
  exact ⟨h1, h2, h3, fun j hj => h4 j (by omega)⟩
theorem OkO.mono {O : List Int} {wd : Int} (h : OkO O wd) {b : Nat} (hb : b < O.length) : ∀ j ≤ b, O[j]?.getD 0 ≤ O[b]?.getD 0 := by
  intro j hj
  induction b with
  | zero => rw [show j = 0 by omega]; omega
  | succ b ih =>
    by_cases he : j = b + 1
    · rw [he]; omega
    · have := ih (by omega) (by omega)
      have := h.inc b hb
      omega
/-- The band of a line. -/
def bnd (O : List Int) (i : Int) : Nat := (O.findIdx fun x => decide (i < x)) - 1
theorem bnd_at {O : List Int} {wd i : Int} (h : OkO O wd) {b : Nat} (hb : b + 1 < O.length) (h1 : O[b]?.getD 0 ≤ i) (h2 : i < O[b + 1]?.getD 0) : bnd O i = b := by
  have : O.findIdx (fun x => decide (i < x)) = b + 1 := by
    rw [List.findIdx_eq hb]
    rw [List.getElem?_eq_getElem hb] at h2
    refine ⟨decide_eq_true h2, fun j hj => ?_⟩
    have := h.mono (by omega : b < O.length) j (by omega)
    rw [List.getElem?_eq_getElem (by omega : j < O.length), Option.getD_some] at this
    exact decide_eq_false (by omega)
  unfold bnd
  rw [this]
  rfl
def bkA (O : List Int) (se : List (List Sc)) (m gi i : Int) : Int := if (bnd O i : Int) < m then (bkG se gi (bnd O i : Nat)).1 else 0
def okV (O : List Int) (se : List (List Sc)) (m gi i v : Int) : Bool := decide (v = 0) || ((decide (1 ≤ bkA O se m gi i) && decide (bkA O se m gi i ≤ 11)) && fitsB (bkA O se m gi i) v)
def linW (O : List Int) (se : List (List Sc)) (m : Int) (g ln : List Int) (wd w : Nat) : Bool := (List.range wd).all fun i => okV O se m (grp g (w : Nat) : Nat) (i : Nat) (ln[w * wd + i]?.getD 0)
def linB (O : List Int) (se : List (List Sc)) (m : Int) (g ln : List Int) (n wd : Nat) : Bool := decide (ln.length = 256) && (List.range n).all (linW O se m g ln wd)
theorem range_all {n : Nat} {p : Nat → Bool} (h : ∀ j < n, p j = true) : (List.range n).all p = true := by
  rw [List.all_eq_true]
  intro j hj
  exact h j (List.mem_range.1 hj)
theorem range_no {n : Nat} {p : Nat → Bool} {j : Nat} (hj : j < n) (h : p j = false) : (List.range n).all p = false := by
  rw [List.all_eq_false]
  exact ⟨j, List.mem_range.2 hj, by rw [h]; simp⟩
theorem linB_len {O : List Int} {se : List (List Sc)} {m : Int} {g ln : List Int} {n wd : Nat} (h : ¬ ln.length = 256) : linB O se m g ln n wd = false := by
  unfold linB
  rw [decide_eq_false h, Bool.false_and]
theorem linB_bad {O : List Int} {se : List (List Sc)} {m : Int} {g ln : List Int} {n wd w i : Nat} (hw : w < n) (hi : i < wd) (h : okV O se m (grp g (w : Nat) : Nat) (i : Nat) (ln[w * wd + i]?.getD 0) = false) : linB O se m g ln n wd = false := by
  unfold linB
  rw [range_no hw (range_no hi h), Bool.and_false]
theorem linB_ok {O : List Int} {se : List (List Sc)} {m : Int} {g ln : List Int} {n wd w : Nat} (hl : ln.length = 256) (hw : n ≤ w) (h : ∀ j < w, linW O se m g ln wd j = true) : linB O se m g ln n wd = true := by
  unfold linB
  rw [decide_eq_true hl, range_all fun j hj => h j (by omega)]
  rfl
theorem bkA_y {O : List Int} {se : List (List Sc)} {m gi i : Int} {c : Nat} (hb : bnd O i = c) (h : (c : Int) < m) : bkA O se m gi i = (bkG se gi (c : Nat)).1 := by
  unfold bkA
  rw [hb, if_pos h]
theorem bkA_n {O : List Int} {se : List (List Sc)} {m gi i : Int} {c : Nat} (hb : bnd O i = c) (h : m ≤ (c : Int)) : bkA O se m gi i = 0 := by
  unfold bkA
  rw [hb, if_neg (by omega)]
theorem okV_no0 {O : List Int} {se : List (List Sc)} {m gi i v : Int} (hv : ¬ v = 0) (h : bkA O se m gi i = 0) : okV O se m gi i v = false := by
  unfold okV
  rw [h, decide_eq_false hv]
  rfl
theorem okV_z {O : List Int} {se : List (List Sc)} {m gi i v : Int} (hv : v = 0) : okV O se m gi i v = true := by
  unfold okV
  rw [decide_eq_true hv, Bool.true_or]
theorem okV_y {O : List Int} {se : List (List Sc)} {m gi i v : Int} (h : (1 ≤ bkA O se m gi i ∧ bkA O se m gi i ≤ 11) ∧ fitsB (bkA O se m gi i) v = true) : okV O se m gi i v = true := by
  unfold okV
  rw [decide_eq_true h.1.1, decide_eq_true h.1.2, h.2]
  simp
theorem okV_n {O : List Int} {se : List (List Sc)} {m gi i v : Int} (hv : ¬ v = 0) (h : (bkA O se m gi i < 1 ∨ 11 < bkA O se m gi i) ∨ fitsB (bkA O se m gi i) v = false) : okV O se m gi i v = false := by
  unfold okV
  rw [decide_eq_false hv, Bool.false_or]
  rcases h with (h | h) | h
  · rw [decide_eq_false (by omega : ¬ 1 ≤ bkA O se m gi i)]; rfl
  · rw [decide_eq_false (by omega : ¬ bkA O se m gi i ≤ 11)]; simp
  · rw [h, Bool.and_false]
theorem sub_at {ln : List Int} {a i n : Nat} (h : i < n) : ((ln.drop a).take n)[i]?.getD 0 = ln[a + i]?.getD 0 := by
  rw [List.getElem?_take_of_lt h, List.getElem?_drop]

attribute [local simp] runs gd step1 need evu un opnds opv ev cst cst1 cstL getT getH putT onL nxt argT cellsOf PV.one thn inBlk jmp fldP ldP ldC live Cells.len Cells.get Cells.w sug ldv bin eqF eq1 ops2 sh2 binv Tk.agg stC apC rdS apS mvL zp argsP idx fillP toInts chunks mkC ixS ixA oidx slP sl0 mxF bltn frzA frz frzL frz1 pur1 Cells.pur PV.scal scal1 runD rdO PV.ids id1 zids ety Eff.on cnd minb and1b ifmax ifmin mxv sugI strv w0 w1 w2 wm1
set_option maxHeartbeats 8000000 in
theorem lines_s (rate : Int) (ga sh m : Int) (g : List Int) (se : List (List Sc)) (st : List (List Int)) (tn : List (List Fl)) (ln : List Int) (hr : 0 ≤ rate ∧ rate ≤ 11) (hm11 : mayI 11 2 sh m g = true) (hwn : winI 2 sh m g = 8) (hx : g.length ≤ 1000) (hs : ∀ w ∈ se, w.length ≤ 1000) : PCall Try.prog 78 [.int .i64 rate, .agg [.int .i64 ga, .int .u8 2, .int .u8 sh, .int .i64 m, .ro (.ints .i64 g), .ro (.rows 1 (se.map fun w => [.ro (.rows 2 (w.map Sc.row))])), .ro (.rows 1 (st.map fun w => [.ro (.ints .i64 w)])), .ro (.rows 1 (tn.map fun w => [.ro (.rows 5 (w.map Fl.row))])), .ro (.ints .i64 ln)], .int .i64 8] (.bool (linB (offs rate true) se m g ln 8 32)) := by
  have hO := offs_fine hr true
  simp only [if_true] at hO
  obtain ⟨ho1, ho2⟩ := hO.len
  have hoz := hO.zero
  have hol := hO.last
  have hq1 : IntKind.i64.wrap 32 = 32 := by decide
  refine pcall_body ty_ok Try.func78 rfl (by rfl) (by simp) ?_
  rw [Try.ntmps78]
  refine swp_seq fun K1 hK1 => ?_
  refine swp_region ty_ok ?_
  try simp (maxSteps := 1000000) [Cells.sub, optL, List.append_eq, List.nil_append, hq1]
  repeat' (first | apply And.intro | intro _)
  any_goals (first | (refine hK1 _ ?_; clear hK1) | (first | omega | (simp only [IntKind.wrap_i64] at *; omega) | (simp_all; done) | (simp_all; omega)))
  refine swp_seq fun K2 hK2 => ?_
  refine swp_seq fun K3 hK3 => ?_
  refine swp_region ty_ok ?_
  try simp (maxSteps := 1000000) [Cells.sub, optL, List.append_eq, List.nil_append, hq1]
  repeat' (first | apply And.intro | intro _)
  any_goals (first | (refine hK3 _ ?_; clear hK3) | (first | omega | (simp only [IntKind.wrap_i64] at *; omega) | (simp_all; done) | (simp_all; omega)))
  refine swp_if fun C4 hC4 => ?_
  try simp (maxSteps := 1000000) [Cells.sub, optL, List.append_eq, List.nil_append, hq1]
  refine hC4 _ (fun hc4 => ?_) (fun hc4 => ?_)
  · clear hC4
    try simp at hc4
    refine swp_seq fun K5 hK5 => ?_
    refine swp_region ty_ok ?_
    try simp (maxSteps := 1000000) [Cells.sub, optL, List.append_eq, List.nil_append, hq1]
    repeat' (first | apply And.intro | intro _)
    any_goals (first | (refine hK5 _ ?_; clear hK5) | (first | omega | (simp only [IntKind.wrap_i64] at *; omega) | (simp_all; done) | (simp_all; omega)))
    refine swp_ret ?_
    simp [fnPost, Try.results78, resP, tupOf]
    exact linB_len (by omega)
  · clear hC4
    try simp at hc4
    refine swp_skip ?_
    simp only [thn, inBlk]
    refine hK2 _ ?_; clear hK2
    refine swp_seq fun K6 hK6 => ?_
    refine swp_region ty_ok ?_
    try simp (maxSteps := 1000000) [Cells.sub, optL, List.append_eq, List.nil_append, hq1]
    repeat' (first | apply And.intro | intro _)
    any_goals (first | (refine hK6 _ ?_; clear hK6) | (first | omega | (simp only [IntKind.wrap_i64] at *; omega) | (simp_all; done) | (simp_all; omega)))
    refine swp_seq fun K7 hK7 => ?_
    refine swp_region ty_ok ?_
    refine runs_cut 2 fun R8 hR8 => ?_
    try simp (maxSteps := 1000000) [Cells.sub, optL, List.append_eq, List.nil_append, hq1, List.take_succ_cons, List.take_zero, List.drop_succ_cons, List.drop_zero]
    repeat' (first | apply And.intro | intro _)
    any_goals (first | (refine hR8 _ ?_; clear hR8) | (first | omega | (simp only [IntKind.wrap_i64] at *; omega) | (simp_all; done) | (simp_all; omega)))
    refine runs_cut 1 fun R9 hR9 => ?_
    try simp (maxSteps := 1000000) [Cells.sub, optL, List.append_eq, List.nil_append, hq1, List.take_succ_cons, List.take_zero, List.drop_succ_cons, List.drop_zero]
    refine .inl ⟨_, (by have h := band_Offsets_ok rate true; rw [if_neg (by omega)] at h; exact h), ?_⟩
    try simp (maxSteps := 1000000) [Cells.sub, optL, List.append_eq, List.nil_append, hq1]
    repeat' (first | apply And.intro | intro _)
    any_goals (first | (refine hR9 _ ?_; clear hR9) | (first | omega | (simp only [IntKind.wrap_i64] at *; omega) | (simp_all; done) | (simp_all; omega)))
    try simp (maxSteps := 1000000) [Cells.sub, optL, List.append_eq, List.nil_append, hq1, List.take_succ_cons, List.take_zero, List.drop_succ_cons, List.drop_zero]
    repeat' (first | apply And.intro | intro _)
    any_goals (first | (refine hK7 _ ?_; clear hK7) | (first | omega | (simp only [IntKind.wrap_i64] at *; omega) | (simp_all; done) | (simp_all; omega)))
    refine swp_seq fun K10 hK10 => ?_
    refine swp_region ty_ok ?_
    try simp (maxSteps := 1000000) [Cells.sub, optL, List.append_eq, List.nil_append, hq1]
    repeat' (first | apply And.intro | intro _)
    any_goals (first | (refine hK10 _ ?_; clear hK10) | (first | omega | (simp only [IntKind.wrap_i64] at *; omega) | (simp_all; done) | (simp_all; omega)))
    refine swp_seq fun K11 hK11 => ?_
    refine swp_seq fun K12 hK12 => ?_
    refine swp_region ty_ok ?_
    try simp (maxSteps := 1000000) [Cells.sub, optL, List.append_eq, List.nil_append, hq1]
    repeat' (first | apply And.intro | intro _)
    any_goals (first | (refine hK12 _ ?_; clear hK12) | (first | omega | (simp only [IntKind.wrap_i64] at *; omega) | (simp_all; done) | (simp_all; omega)))
    refine swp_block ?_
    refine swp_loop 1 (fun m_ s_ => ∃ (w : Nat), (w ≤ 8) ∧ (∀ j < w, linW (offs rate true) se m g ln 32 j = true) ∧ s_ = ⟨[(4, .ptr 0 0 0 1), (8, .ro (.ints .i64 (offs rate true))), (10, .int .i64 32), (34, .int .i64 8), (35, .int .i64 (w : Nat))], [(0, some ⟨.rows 9 [[.int .i64 ga, .int .u8 2, .int .u8 sh, .int .i64 m, .ro (.ints .i64 g), .ro (.rows 1 (se.map fun w => [.ro (.rows 2 (w.map Sc.row))])), .ro (.rows 1 (st.map fun w => [.ro (.ints .i64 w)])), .ro (.rows 1 (tn.map fun w => [.ro (.rows 5 (w.map Fl.row))])), .ro (.ints .i64 ln)]], true, 29⟩)], 1⟩ ∧ m_ = 8 - w) _ ⟨[(4, .ptr 0 0 0 1), (8, .ro (.ints .i64 (offs rate true))), (10, .int .i64 32), (34, .int .i64 8), (35, .int .i64 (0 : Nat))], [(0, some ⟨.rows 9 [[.int .i64 ga, .int .u8 2, .int .u8 sh, .int .i64 m, .ro (.ints .i64 g), .ro (.rows 1 (se.map fun w => [.ro (.rows 2 (w.map Sc.row))])), .ro (.rows 1 (st.map fun w => [.ro (.ints .i64 w)])), .ro (.rows 1 (tn.map fun w => [.ro (.rows 5 (w.map Fl.row))])), .ro (.ints .i64 ln)]], true, 29⟩)], 1⟩ ⟨by simp [getT, PV.lo, lo1], by simp [getH, Blk.lo, Cells.lo, lo1], rfl, by omega⟩ ⟨(0), by omega, by simp, rfl, rfl⟩ ?_
    rintro m_ s_ ⟨w, hL13_0, hL13_1, rfl, rfl⟩ KL13 hL13
    have hww : IntKind.i64.wrap ((w : Int) + 1) = (((w + 1 : Nat)) : Int) := wnext (by omega)
    refine swp_seq fun K14 hK14 => ?_
    refine swp_region ty_ok ?_
    try simp (maxSteps := 1000000) [Cells.sub, optL, List.append_eq, List.nil_append, hq1]
    repeat' (first | apply And.intro | intro _)
    any_goals (first | (refine hK14 _ ?_; clear hK14) | (first | omega | (simp only [IntKind.wrap_i64] at *; omega) | (simp_all; done) | (simp_all; omega)))
    refine swp_seq fun K15 hK15 => ?_
    refine swp_if fun C16 hC16 => ?_
    try simp (maxSteps := 1000000) [Cells.sub, optL, List.append_eq, List.nil_append, hq1]
    refine hC16 _ (fun hc16 => ?_) (fun hc16 => ?_)
    · clear hC16
      try simp at hc16
      refine swp_skip ?_
      simp only [thn, inBlk]
      refine hK15 _ ?_; clear hK15
      refine swp_seq fun K17 hK17 => ?_
      refine swp_block ?_
      refine swp_seq fun K18 hK18 => ?_
      refine swp_region ty_ok ?_
      try simp (maxSteps := 1000000) [Cells.sub, optL, List.append_eq, List.nil_append, hq1]
      repeat' (first | apply And.intro | intro _)
      any_goals (first | (refine hK18 _ ?_; clear hK18) | (first | omega | (simp only [IntKind.wrap_i64] at *; omega) | (simp_all; done) | (simp_all; omega)))
      refine swp_seq fun K19 hK19 => ?_
      have hg0 : grpN 2 sh m g (w : Int) = (grp g (w : Int) : Nat) := (grp_ok hm11 (by omega)).2
      have hE0 : grpE 2 sh m g (w : Int) = 0 := (grp_ok hm11 (by omega)).1
      refine swp_region ty_ok ?_
      refine runs_cut 3 fun R20 hR20 => ?_
      try simp (maxSteps := 1000000) [Cells.sub, optL, List.append_eq, List.nil_append, hq1, List.take_succ_cons, List.take_zero, List.drop_succ_cons, List.drop_zero]
      repeat' (first | apply And.intro | intro _)
      any_goals (first | (refine hR20 _ ?_; clear hR20) | (first | omega | (simp only [IntKind.wrap_i64] at *; omega) | (simp_all; done) | (simp_all; omega)))
      refine runs_cut 1 fun R21 hR21 => ?_
      try simp (maxSteps := 1000000) [Cells.sub, optL, List.append_eq, List.nil_append, hq1, List.take_succ_cons, List.take_zero, List.drop_succ_cons, List.drop_zero]
      refine .inl ⟨_, (by have h := info_Group_ok 2 sh m g (by omega) (w : Int); rw [hg0, hE0] at h; exact h), ?_⟩
      try simp (maxSteps := 1000000) [Cells.sub, optL, List.append_eq, List.nil_append, hq1]
      repeat' (first | apply And.intro | intro _)
      any_goals (first | (refine hR21 _ ?_; clear hR21) | (first | omega | (simp only [IntKind.wrap_i64] at *; omega) | (simp_all; done) | (simp_all; omega)))
      try simp (maxSteps := 1000000) [Cells.sub, optL, List.append_eq, List.nil_append, hq1, List.take_succ_cons, List.take_zero, List.drop_succ_cons, List.drop_zero]
      repeat' (first | apply And.intro | intro _)
      any_goals (first | (refine hK19 _ ?_; clear hK19) | (first | omega | (simp only [IntKind.wrap_i64] at *; omega) | (simp_all; done) | (simp_all; omega)))
      refine swp_seq fun K22 hK22 => ?_
      refine swp_region ty_ok ?_
      try simp (maxSteps := 1000000) [Cells.sub, optL, List.append_eq, List.nil_append, hq1]
      repeat' (first | apply And.intro | intro _)
      any_goals (first | (refine hK22 _ ?_; clear hK22) | (first | omega | (simp only [IntKind.wrap_i64] at *; omega) | (simp_all; done) | (simp_all; omega)))
      refine swp_seq fun K23 hK23 => ?_
      have hln : ln.length = 256 := by omega
      have hw1 : IntKind.i64.wrap ((w : Int) * 32) = (w : Int) * 32 := w64 (by omega)
      have hw2 : IntKind.i64.wrap (((w : Int) + 1) * 32) = ((w : Int) + 1) * 32 := w64 (by omega)
      have hw3 : IntKind.i64.wrap ((w : Int) + 1) = (w : Int) + 1 := w64 (by omega)
      have hw4 : ((w : Int) * 32).toNat = w * 32 := by omega
      have hw5 : (((w : Int) + 1) * 32).toNat - w * 32 = 32 := by omega
      have hw6 : min 32 (ln.length - w * 32) = 32 := by omega
      refine swp_region ty_ok ?_
      try simp (maxSteps := 1000000) [Cells.sub, optL, List.append_eq, List.nil_append, hq1, hw1, hw2, hw3, hw4, hw5, hw6]
      repeat' (first | apply And.intro | intro _)
      any_goals (first | (refine hK23 _ ?_; clear hK23) | (first | omega | (simp only [IntKind.wrap_i64] at *; omega) | (simp_all; done) | (simp_all; omega)))
      refine swp_block ?_
      refine swp_loop 1 (fun m_ s_ => ∃ (i : Nat) (b : Nat), (i ≤ 32) ∧ (b + 1 < (offs rate true).length) ∧ ((offs rate true)[b]?.getD 0 ≤ i) ∧ (∀ j < i, okV (offs rate true) se m (grp g (w : Nat) : Nat) (j : Nat) (ln[w * 32 + j]?.getD 0) = true) ∧ s_ = ⟨[(4, .ptr 0 0 0 1), (8, .ro (.ints .i64 (offs rate true))), (10, .int .i64 32), (34, .int .i64 8), (35, .int .i64 (w : Nat)), (11, .int .i64 (w : Nat)), (12, .int .i64 (grp g (w : Int) : Nat)), (14, .int .i64 (b : Nat)), (54, .ro (.ints .i64 ((ln.drop (w * 32)).take 32))), (55, .int .i64 32), (56, .int .i64 (i : Nat))], [(0, some ⟨.rows 9 [[.int .i64 ga, .int .u8 2, .int .u8 sh, .int .i64 m, .ro (.ints .i64 g), .ro (.rows 1 (se.map fun w => [.ro (.rows 2 (w.map Sc.row))])), .ro (.rows 1 (st.map fun w => [.ro (.ints .i64 w)])), .ro (.rows 1 (tn.map fun w => [.ro (.rows 5 (w.map Fl.row))])), .ro (.ints .i64 ln)]], true, 29⟩)], 1⟩ ∧ m_ = 32 - i) _ ⟨[(4, .ptr 0 0 0 1), (8, .ro (.ints .i64 (offs rate true))), (10, .int .i64 32), (34, .int .i64 8), (35, .int .i64 (w : Nat)), (11, .int .i64 (w : Nat)), (12, .int .i64 (grp g (w : Int) : Nat)), (14, .int .i64 (0 : Nat)), (54, .ro (.ints .i64 ((ln.drop (w * 32)).take 32))), (55, .int .i64 32), (56, .int .i64 (0 : Nat))], [(0, some ⟨.rows 9 [[.int .i64 ga, .int .u8 2, .int .u8 sh, .int .i64 m, .ro (.ints .i64 g), .ro (.rows 1 (se.map fun w => [.ro (.rows 2 (w.map Sc.row))])), .ro (.rows 1 (st.map fun w => [.ro (.ints .i64 w)])), .ro (.rows 1 (tn.map fun w => [.ro (.rows 5 (w.map Fl.row))])), .ro (.ints .i64 ln)]], true, 29⟩)], 1⟩ ⟨by simp [getT, PV.lo, lo1, hw4, hw5, hw6], by simp [getH, Blk.lo, Cells.lo, lo1], rfl, by omega⟩ ⟨(0), (0), by omega, by omega, by (rw [hoz]; omega), by simp, rfl, rfl⟩ ?_
      rintro m_ s_ ⟨i, b, hL24_0, hL24_1, hL24_2, hL24_3, rfl, rfl⟩ KL24 hL24
      have hiw : IntKind.i64.wrap ((i : Int) + 1) = (((i + 1 : Nat)) : Int) := wnext (by omega)
      refine swp_seq fun K25 hK25 => ?_
      refine swp_region ty_ok ?_
      try simp (maxSteps := 1000000) [Cells.sub, optL, List.append_eq, List.nil_append, hq1]
      repeat' (first | apply And.intro | intro _)
      any_goals (first | (refine hK25 _ ?_; clear hK25) | (first | omega | (simp only [IntKind.wrap_i64] at *; omega) | (simp_all; done) | (simp_all; omega)))
      refine swp_seq fun K26 hK26 => ?_
      refine swp_if fun C27 hC27 => ?_
      try simp (maxSteps := 1000000) [Cells.sub, optL, List.append_eq, List.nil_append, hq1]
      refine hC27 _ (fun hc27 => ?_) (fun hc27 => ?_)
      · clear hC27
        try simp at hc27
        refine swp_skip ?_
        simp only [thn, inBlk]
        refine hK26 _ ?_; clear hK26
        refine swp_seq fun K28 hK28 => ?_
        refine swp_block ?_
        refine swp_seq fun K29 hK29 => ?_
        have hsv : ((ln.drop (w * 32)).take 32)[i]?.getD 0 = (ln[w * 32 + i]?.getD 0) := sub_at (by omega)
        refine swp_region ty_ok ?_
        try simp (maxSteps := 1000000) [Cells.sub, optL, List.append_eq, List.nil_append, hq1, hsv]
        repeat' (first | apply And.intro | intro _)
        any_goals (first | (refine hK29 _ ?_; clear hK29) | (first | omega | (simp only [IntKind.wrap_i64] at *; omega) | (simp_all; done) | (simp_all; omega)))
        refine swp_seq fun K30 hK30 => ?_
        refine swp_seq fun K31 hK31 => ?_
        
        refine swp_region ty_ok ?_
        try simp (maxSteps := 1000000) [Cells.sub, optL, List.append_eq, List.nil_append, hq1]
        repeat' (first | apply And.intro | intro _)
        any_goals (first | (refine hK31 _ ?_; clear hK31) | (first | omega | (simp only [IntKind.wrap_i64] at *; omega) | (simp_all; done) | (simp_all; omega)))
        refine swp_if fun C32 hC32 => ?_
        try simp (maxSteps := 1000000) [Cells.sub, optL, List.append_eq, List.nil_append, hq1]
        refine hC32 _ (fun hc32 => ?_) (fun hc32 => ?_)
        · clear hC32
          try simp at hc32
          refine swp_exit ?_
          simp [thn, inBlk]
          refine hK28 _ ?_; clear hK28
          refine swp_region ty_ok ?_
          try simp (maxSteps := 1000000) [Cells.sub, optL, List.append_eq, List.nil_append, hq1]
          repeat' apply And.intro
          any_goals (try omega)
          first | refine hL24 _ ⟨[(4, .ptr 0 0 0 1), (8, .ro (.ints .i64 (offs rate true))), (10, .int .i64 32), (34, .int .i64 8), (35, .int .i64 (w : Nat)), (11, .int .i64 (w : Nat)), (12, .int .i64 (grp g (w : Int) : Nat)), (14, .int .i64 (c : Nat)), (54, .ro (.ints .i64 ((ln.drop (w * 32)).take 32))), (55, .int .i64 32), (56, .int .i64 ((i + 1) : Nat))], [(0, some ⟨.rows 9 [[.int .i64 ga, .int .u8 2, .int .u8 sh, .int .i64 m, .ro (.ints .i64 g), .ro (.rows 1 (se.map fun w => [.ro (.rows 2 (w.map Sc.row))])), .ro (.rows 1 (st.map fun w => [.ro (.ints .i64 w)])), .ro (.rows 1 (tn.map fun w => [.ro (.rows 5 (w.map Fl.row))])), .ro (.ints .i64 ln)]], true, 29⟩)], 1⟩ _ ?_ ⟨(i + 1), (c), by omega, by omega, by (push_cast; omega), by (first | exact lt_step (by assumption) (okV_z (by assumption)) | exact lt_step (by assumption) (okV_y (by rw [hbk]; exact hc32))), rfl, rfl⟩ ⟨by simp [getT, PV.lo, lo1, hiw], by simp [getH, Blk.lo, Cells.lo, lo1], rfl, by omega⟩ | refine hL24 _ ⟨[(4, .ptr 0 0 0 1), (8, .ro (.ints .i64 (offs rate true))), (10, .int .i64 32), (34, .int .i64 8), (35, .int .i64 (w : Nat)), (11, .int .i64 (w : Nat)), (12, .int .i64 (grp g (w : Int) : Nat)), (14, .int .i64 (b : Nat)), (54, .ro (.ints .i64 ((ln.drop (w * 32)).take 32))), (55, .int .i64 32), (56, .int .i64 ((i + 1) : Nat))], [(0, some ⟨.rows 9 [[.int .i64 ga, .int .u8 2, .int .u8 sh, .int .i64 m, .ro (.ints .i64 g), .ro (.rows 1 (se.map fun w => [.ro (.rows 2 (w.map Sc.row))])), .ro (.rows 1 (st.map fun w => [.ro (.ints .i64 w)])), .ro (.rows 1 (tn.map fun w => [.ro (.rows 5 (w.map Fl.row))])), .ro (.ints .i64 ln)]], true, 29⟩)], 1⟩ _ ?_ ⟨(i + 1), (b), by omega, by omega, by (push_cast; omega), by (first | exact lt_step (by assumption) (okV_z (by assumption)) | exact lt_step (by assumption) (okV_y (by rw [hbk]; exact hc32))), rfl, rfl⟩ ⟨by simp [getT, PV.lo, lo1, hiw], by simp [getH, Blk.lo, Cells.lo, lo1], rfl, by omega⟩
          omega
        · clear hC32
          try simp at hc32
          refine swp_skip ?_
          simp only [thn, inBlk]
          refine hK30 _ ?_; clear hK30
          refine swp_seq fun K33 hK33 => ?_
          refine swp_block ?_
          refine swp_loop 1 (fun m_ s_ => ∃ (c : Nat), (c + 1 < (offs rate true).length) ∧ ((offs rate true)[c]?.getD 0 ≤ i) ∧ s_ = ⟨[(4, .ptr 0 0 0 1), (8, .ro (.ints .i64 (offs rate true))), (10, .int .i64 32), (34, .int .i64 8), (35, .int .i64 (w : Nat)), (11, .int .i64 (w : Nat)), (12, .int .i64 (grp g (w : Int) : Nat)), (14, .int .i64 (c : Nat)), (54, .ro (.ints .i64 ((ln.drop (w * 32)).take 32))), (55, .int .i64 32), (56, .int .i64 (i : Nat)), (15, .int .i64 (i : Nat)), (16, .int .i64 (ln[w * 32 + i]?.getD 0))], [(0, some ⟨.rows 9 [[.int .i64 ga, .int .u8 2, .int .u8 sh, .int .i64 m, .ro (.ints .i64 g), .ro (.rows 1 (se.map fun w => [.ro (.rows 2 (w.map Sc.row))])), .ro (.rows 1 (st.map fun w => [.ro (.ints .i64 w)])), .ro (.rows 1 (tn.map fun w => [.ro (.rows 5 (w.map Fl.row))])), .ro (.ints .i64 ln)]], true, 29⟩)], 1⟩ ∧ m_ = (offs rate true).length - c) _ ⟨[(4, .ptr 0 0 0 1), (8, .ro (.ints .i64 (offs rate true))), (10, .int .i64 32), (34, .int .i64 8), (35, .int .i64 (w : Nat)), (11, .int .i64 (w : Nat)), (12, .int .i64 (grp g (w : Int) : Nat)), (14, .int .i64 (b : Nat)), (54, .ro (.ints .i64 ((ln.drop (w * 32)).take 32))), (55, .int .i64 32), (56, .int .i64 (i : Nat)), (15, .int .i64 (i : Nat)), (16, .int .i64 (ln[w * 32 + i]?.getD 0))], [(0, some ⟨.rows 9 [[.int .i64 ga, .int .u8 2, .int .u8 sh, .int .i64 m, .ro (.ints .i64 g), .ro (.rows 1 (se.map fun w => [.ro (.rows 2 (w.map Sc.row))])), .ro (.rows 1 (st.map fun w => [.ro (.ints .i64 w)])), .ro (.rows 1 (tn.map fun w => [.ro (.rows 5 (w.map Fl.row))])), .ro (.ints .i64 ln)]], true, 29⟩)], 1⟩ ⟨by simp [getT, PV.lo, lo1], by simp [getH, Blk.lo, Cells.lo, lo1], rfl, by omega⟩ ⟨(b), by (first | omega | (simp only [IntKind.wrap_i64] at *; omega) | (simp_all; done) | (simp_all; omega)), by (first | omega | (simp only [IntKind.wrap_i64] at *; omega) | (simp_all; done) | (simp_all; omega)), rfl, rfl⟩ ?_
          rintro m_ s_ ⟨c, hL34_0, hL34_1, rfl, rfl⟩ KL34 hL34
          refine swp_seq fun K35 hK35 => ?_
          refine swp_seq fun K36 hK36 => ?_
          have hc1 : IntKind.i64.wrap ((c : Int) + 1) = (c : Int) + 1 := w64 (by omega)
          have hc2 : ((c : Int) + 1).toNat = c + 1 := by omega
          refine swp_region ty_ok ?_
          try simp (maxSteps := 1000000) [Cells.sub, optL, List.append_eq, List.nil_append, hq1, hc1, hc2]
          repeat' (first | apply And.intro | intro _)
          any_goals (first | (refine hK36 _ ?_; clear hK36) | (first | omega | (simp only [IntKind.wrap_i64] at *; omega) | (simp_all; done) | (simp_all; omega)))
          refine swp_if fun C37 hC37 => ?_
          try simp (maxSteps := 1000000) [Cells.sub, optL, List.append_eq, List.nil_append, hq1, hc1, hc2]
          refine hC37 _ (fun hc37 => ?_) (fun hc37 => ?_)
          · clear hC37
            try simp at hc37
            refine swp_skip ?_
            simp only [thn, inBlk]
            refine hK35 _ ?_; clear hK35
            refine swp_block ?_
            refine swp_region ty_ok ?_
            try simp (maxSteps := 1000000) [Cells.sub, optL, List.append_eq, List.nil_append, hq1]
            repeat' apply And.intro
            any_goals (try omega)
            refine hL34 _ ⟨[(4, .ptr 0 0 0 1), (8, .ro (.ints .i64 (offs rate true))), (10, .int .i64 32), (34, .int .i64 8), (35, .int .i64 (w : Nat)), (11, .int .i64 (w : Nat)), (12, .int .i64 (grp g (w : Int) : Nat)), (14, .int .i64 ((c + 1) : Nat)), (54, .ro (.ints .i64 ((ln.drop (w * 32)).take 32))), (55, .int .i64 32), (56, .int .i64 (i : Nat)), (15, .int .i64 (i : Nat)), (16, .int .i64 (ln[w * 32 + i]?.getD 0))], [(0, some ⟨.rows 9 [[.int .i64 ga, .int .u8 2, .int .u8 sh, .int .i64 m, .ro (.ints .i64 g), .ro (.rows 1 (se.map fun w => [.ro (.rows 2 (w.map Sc.row))])), .ro (.rows 1 (st.map fun w => [.ro (.ints .i64 w)])), .ro (.rows 1 (tn.map fun w => [.ro (.rows 5 (w.map Fl.row))])), .ro (.ints .i64 ln)]], true, 29⟩)], 1⟩ _ ?_ ⟨(c + 1), by (have hcl : c + 2 < (offs rate true).length := (by rcases Nat.lt_or_ge (c + 2) (offs rate true).length with h | h; exact h; rw [show (offs rate true).length - 1 = c + 1 by omega] at hol; omega); omega), by omega, rfl, rfl⟩ ⟨by simp [getT, PV.lo, lo1, hc1], by simp [getH, Blk.lo, Cells.lo, lo1], rfl, by omega⟩
            omega
          · clear hC37
            try simp at hc37
            refine swp_exit ?_
            simp [thn, inBlk]
            refine hK33 _ ?_; clear hK33
            refine swp_seq fun K38 hK38 => ?_
            have hbc : bnd (offs rate true) (i : Nat) = c := bnd_at hO (by omega) (by omega) (by omega)
            refine swp_region ty_ok ?_
            try simp (maxSteps := 1000000) [Cells.sub, optL, List.append_eq, List.nil_append, hq1]
            repeat' (first | apply And.intro | intro _)
            any_goals (first | (refine hK38 _ ?_; clear hK38) | (first | omega | (simp only [IntKind.wrap_i64] at *; omega) | (simp_all; done) | (simp_all; omega)))
            refine swp_seq fun K39 hK39 => ?_
            refine swp_seq fun K40 hK40 => ?_
            refine swp_region ty_ok ?_
            try simp (maxSteps := 1000000) [Cells.sub, optL, List.append_eq, List.nil_append, hq1]
            repeat' (first | apply And.intro | intro _)
            any_goals (first | (refine hK40 _ ?_; clear hK40) | (first | omega | (simp only [IntKind.wrap_i64] at *; omega) | (simp_all; done) | (simp_all; omega)))
            refine swp_if fun C41 hC41 => ?_
            try simp (maxSteps := 1000000) [Cells.sub, optL, List.append_eq, List.nil_append, hq1]
            refine hC41 _ (fun hc41 => ?_) (fun hc41 => ?_)
            · clear hC41
              try simp at hc41
              have hbk := bkA_y (se := se) (m := m) (gi := (grp g (w : Nat) : Nat)) hbc (by omega)
              refine swp_region ty_ok ?_
              refine runs_cut 4 fun R42 hR42 => ?_
              try simp (maxSteps := 1000000) [Cells.sub, optL, List.append_eq, List.nil_append, hq1, List.take_succ_cons, List.take_zero, List.drop_succ_cons, List.drop_zero]
              repeat' (first | apply And.intro | intro _)
              any_goals (first | (refine hR42 _ ?_; clear hR42) | (first | omega | (simp only [IntKind.wrap_i64] at *; omega) | (simp_all; done) | (simp_all; omega)))
              refine runs_cut 1 fun R43 hR43 => ?_
              try simp (maxSteps := 1000000) [Cells.sub, optL, List.append_eq, List.nil_append, hq1, List.take_succ_cons, List.take_zero, List.drop_succ_cons, List.drop_zero]
              refine .inl ⟨_, lane_Book_ok se (grp g (w : Int) : Nat) (c : Nat) hs (by omega), ?_⟩
              try simp (maxSteps := 1000000) [Cells.sub, optL, List.append_eq, List.nil_append, hq1]
              repeat' (first | apply And.intro | intro _)
              any_goals (first | (refine hR43 _ ?_; clear hR43) | (first | omega | (simp only [IntKind.wrap_i64] at *; omega) | (simp_all; done) | (simp_all; omega)))
              try simp (maxSteps := 1000000) [Cells.sub, optL, List.append_eq, List.nil_append, hq1, List.take_succ_cons, List.take_zero, List.drop_succ_cons, List.drop_zero]
              repeat' (first | apply And.intro | intro _)
              any_goals (first | (refine hK39 _ ?_; clear hK39) | (first | omega | (simp only [IntKind.wrap_i64] at *; omega) | (simp_all; done) | (simp_all; omega)))
              refine swp_seq fun K44 hK44 => ?_
              refine swp_region ty_ok ?_
              refine runs_cut 9 fun R45 hR45 => ?_
              try simp (maxSteps := 1000000) [Cells.sub, optL, List.append_eq, List.nil_append, hq1, List.take_succ_cons, List.take_zero, List.drop_succ_cons, List.drop_zero]
              repeat' (first | apply And.intro | intro _)
              any_goals (first | (refine hR45 _ ?_; clear hR45) | (first | omega | (simp only [IntKind.wrap_i64] at *; omega) | (simp_all; done) | (simp_all; omega)))
              refine runs_cut 1 fun R46 hR46 => ?_
              try simp (maxSteps := 1000000) [Cells.sub, optL, List.append_eq, List.nil_append, hq1, List.take_succ_cons, List.take_zero, List.drop_succ_cons, List.drop_zero]
              first | refine .inl ⟨_, by (intros; exact Or.inl ⟨lane_fits_ok _ (ln[w * 32 + i]?.getD 0) (by omega), rfl⟩), ?_⟩ | refine .inl ⟨_, by (intros; exact Or.inl (lane_fits_ok _ (ln[w * 32 + i]?.getD 0) (by omega))), ?_⟩ | refine .inl ⟨.bool true, ?_⟩
              repeat' (first | apply And.intro | intro _)
              any_goals (first | (refine hR46 _ ?_; clear hR46) | (first | omega | (simp only [IntKind.wrap_i64] at *; omega) | (simp_all; done) | (simp_all; omega)))
              try simp (maxSteps := 1000000) [Cells.sub, optL, List.append_eq, List.nil_append, hq1, List.take_succ_cons, List.take_zero, List.drop_succ_cons, List.drop_zero]
              repeat' (first | apply And.intro | intro _)
              any_goals (first | (refine hK44 _ ?_; clear hK44) | (first | omega | (simp only [IntKind.wrap_i64] at *; omega) | (simp_all; done) | (simp_all; omega)))
              refine swp_if fun C47 hC47 => ?_
              try simp (maxSteps := 1000000) [Cells.sub, optL, List.append_eq, List.nil_append, hq1]
              refine hC47 _ (fun hc47 => ?_) (fun hc47 => ?_)
              · clear hC47
                try simp at hc47
                refine swp_seq fun K48 hK48 => ?_
                refine swp_region ty_ok ?_
                try simp (maxSteps := 1000000) [Cells.sub, optL, List.append_eq, List.nil_append, hq1]
                repeat' (first | apply And.intro | intro _)
                any_goals (first | (refine hK48 _ ?_; clear hK48) | (first | omega | (simp only [IntKind.wrap_i64] at *; omega) | (simp_all; done) | (simp_all; omega)))
                refine swp_ret ?_
                simp [fnPost, Try.results78, resP, tupOf]
                exact linB_bad (w := w) (i := i) (by omega) (by omega) (okV_n (by assumption) (by rw [hbk]; exact hc47))
              · clear hC47
                try simp at hc47
                refine swp_skip ?_
                simp only [thn, inBlk]
                refine hK28 _ ?_; clear hK28
                refine swp_region ty_ok ?_
                try simp (maxSteps := 1000000) [Cells.sub, optL, List.append_eq, List.nil_append, hq1]
                repeat' apply And.intro
                any_goals (try omega)
                first | refine hL24 _ ⟨[(4, .ptr 0 0 0 1), (8, .ro (.ints .i64 (offs rate true))), (10, .int .i64 32), (34, .int .i64 8), (35, .int .i64 (w : Nat)), (11, .int .i64 (w : Nat)), (12, .int .i64 (grp g (w : Int) : Nat)), (14, .int .i64 (c : Nat)), (54, .ro (.ints .i64 ((ln.drop (w * 32)).take 32))), (55, .int .i64 32), (56, .int .i64 ((i + 1) : Nat))], [(0, some ⟨.rows 9 [[.int .i64 ga, .int .u8 2, .int .u8 sh, .int .i64 m, .ro (.ints .i64 g), .ro (.rows 1 (se.map fun w => [.ro (.rows 2 (w.map Sc.row))])), .ro (.rows 1 (st.map fun w => [.ro (.ints .i64 w)])), .ro (.rows 1 (tn.map fun w => [.ro (.rows 5 (w.map Fl.row))])), .ro (.ints .i64 ln)]], true, 29⟩)], 1⟩ _ ?_ ⟨(i + 1), (c), by omega, by omega, by (push_cast; omega), by (first | exact lt_step (by assumption) (okV_z (by assumption)) | exact lt_step (by assumption) (okV_y (by rw [hbk]; exact hc47))), rfl, rfl⟩ ⟨by simp [getT, PV.lo, lo1, hiw], by simp [getH, Blk.lo, Cells.lo, lo1], rfl, by omega⟩ | refine hL24 _ ⟨[(4, .ptr 0 0 0 1), (8, .ro (.ints .i64 (offs rate true))), (10, .int .i64 32), (34, .int .i64 8), (35, .int .i64 (w : Nat)), (11, .int .i64 (w : Nat)), (12, .int .i64 (grp g (w : Int) : Nat)), (14, .int .i64 (b : Nat)), (54, .ro (.ints .i64 ((ln.drop (w * 32)).take 32))), (55, .int .i64 32), (56, .int .i64 ((i + 1) : Nat))], [(0, some ⟨.rows 9 [[.int .i64 ga, .int .u8 2, .int .u8 sh, .int .i64 m, .ro (.ints .i64 g), .ro (.rows 1 (se.map fun w => [.ro (.rows 2 (w.map Sc.row))])), .ro (.rows 1 (st.map fun w => [.ro (.ints .i64 w)])), .ro (.rows 1 (tn.map fun w => [.ro (.rows 5 (w.map Fl.row))])), .ro (.ints .i64 ln)]], true, 29⟩)], 1⟩ _ ?_ ⟨(i + 1), (b), by omega, by omega, by (push_cast; omega), by (first | exact lt_step (by assumption) (okV_z (by assumption)) | exact lt_step (by assumption) (okV_y (by rw [hbk]; exact hc47))), rfl, rfl⟩ ⟨by simp [getT, PV.lo, lo1, hiw], by simp [getH, Blk.lo, Cells.lo, lo1], rfl, by omega⟩
                omega
            · clear hC41
              try simp at hc41
              refine swp_skip ?_
              simp only [thn, inBlk]
              refine hK39 _ ?_; clear hK39
              refine swp_seq fun K49 hK49 => ?_
              refine swp_region ty_ok ?_
              refine runs_cut 9 fun R50 hR50 => ?_
              try simp (maxSteps := 1000000) [Cells.sub, optL, List.append_eq, List.nil_append, hq1, List.take_succ_cons, List.take_zero, List.drop_succ_cons, List.drop_zero]
              repeat' (first | apply And.intro | intro _)
              any_goals (first | (refine hR50 _ ?_; clear hR50) | (first | omega | (simp only [IntKind.wrap_i64] at *; omega) | (simp_all; done) | (simp_all; omega)))
              refine runs_cut 1 fun R51 hR51 => ?_
              try simp (maxSteps := 1000000) [Cells.sub, optL, List.append_eq, List.nil_append, hq1, List.take_succ_cons, List.take_zero, List.drop_succ_cons, List.drop_zero]
              first | refine .inl ⟨_, by (intros; exact Or.inl ⟨lane_fits_ok _ (ln[w * 32 + i]?.getD 0) (by omega), rfl⟩), ?_⟩ | refine .inl ⟨_, by (intros; exact Or.inl (lane_fits_ok _ (ln[w * 32 + i]?.getD 0) (by omega))), ?_⟩ | refine .inl ⟨.bool true, ?_⟩
              repeat' (first | apply And.intro | intro _)
              any_goals (first | (refine hR51 _ ?_; clear hR51) | (first | omega | (simp only [IntKind.wrap_i64] at *; omega) | (simp_all; done) | (simp_all; omega)))
              try simp (maxSteps := 1000000) [Cells.sub, optL, List.append_eq, List.nil_append, hq1, List.take_succ_cons, List.take_zero, List.drop_succ_cons, List.drop_zero]
              repeat' (first | apply And.intro | intro _)
              any_goals (first | (refine hK49 _ ?_; clear hK49) | (first | omega | (simp only [IntKind.wrap_i64] at *; omega) | (simp_all; done) | (simp_all; omega)))
              refine swp_if fun C52 hC52 => ?_
              try simp (maxSteps := 1000000) [Cells.sub, optL, List.append_eq, List.nil_append, hq1]
              refine hC52 _ (fun hc52 => ?_) (fun hc52 => ?_)
              · clear hC52
                try simp at hc52
                refine swp_seq fun K53 hK53 => ?_
                refine swp_region ty_ok ?_
                try simp (maxSteps := 1000000) [Cells.sub, optL, List.append_eq, List.nil_append, hq1]
                repeat' (first | apply And.intro | intro _)
                any_goals (first | (refine hK53 _ ?_; clear hK53) | (first | omega | (simp only [IntKind.wrap_i64] at *; omega) | (simp_all; done) | (simp_all; omega)))
                refine swp_ret ?_
                simp [fnPost, Try.results78, resP, tupOf]
                exact linB_bad (w := w) (i := i) (by omega) (by omega) (okV_no0 (by assumption) (bkA_n hbc (by omega)))
              · exact absurd hc52 (by simp)
      · clear hC27
        try simp at hc27
        refine swp_exit ?_
        simp [thn, inBlk]
        refine hK17 _ ?_; clear hK17
        refine swp_region ty_ok ?_
        try simp (maxSteps := 1000000) [Cells.sub, optL, List.append_eq, List.nil_append, hq1]
        repeat' apply And.intro
        any_goals (try omega)
        refine hL13 _ ⟨[(4, .ptr 0 0 0 1), (8, .ro (.ints .i64 (offs rate true))), (10, .int .i64 32), (34, .int .i64 8), (35, .int .i64 ((w + 1) : Nat))], [(0, some ⟨.rows 9 [[.int .i64 ga, .int .u8 2, .int .u8 sh, .int .i64 m, .ro (.ints .i64 g), .ro (.rows 1 (se.map fun w => [.ro (.rows 2 (w.map Sc.row))])), .ro (.rows 1 (st.map fun w => [.ro (.ints .i64 w)])), .ro (.rows 1 (tn.map fun w => [.ro (.rows 5 (w.map Fl.row))])), .ro (.ints .i64 ln)]], true, 29⟩)], 1⟩ _ ?_ ⟨(w + 1), by omega, by (refine lt_step (by assumption) (range_all fun j hj => ?_); exact (by assumption : ∀ j < i, okV (offs rate true) se m (grp g (w : Nat) : Nat) (j : Nat) (ln[w * 32 + j]?.getD 0) = true) j (by omega)), rfl, rfl⟩ ⟨by simp [getT, PV.lo, lo1, hww], by simp [getH, Blk.lo, Cells.lo, lo1], rfl, by omega⟩
        omega
    · clear hC16
      try simp at hc16
      refine swp_exit ?_
      simp [thn, inBlk]
      refine hK11 _ ?_; clear hK11
      refine swp_seq fun K54 hK54 => ?_
      refine swp_region ty_ok ?_
      try simp (maxSteps := 1000000) [Cells.sub, optL, List.append_eq, List.nil_append, hq1]
      repeat' (first | apply And.intro | intro _)
      any_goals (first | (refine hK54 _ ?_; clear hK54) | (first | omega | (simp only [IntKind.wrap_i64] at *; omega) | (simp_all; done) | (simp_all; omega)))
      refine swp_ret ?_
      simp [fnPost, Try.results78, resP, tupOf]
      exact linB_ok (w := w) (by omega) (by omega) (by assumption)

set_option maxHeartbeats 8000000 in
theorem lines_l (rate : Int) (ga s sh m : Int) (g : List Int) (se : List (List Sc)) (st : List (List Int)) (tn : List (List Fl)) (ln : List Int) (hr : 0 ≤ rate ∧ rate ≤ 11) (hss : ¬ s = 2) (hm11 : mayI 11 s sh m g = true) (hwn : winI s sh m g = 1) (hx : g.length ≤ 1000) (hs : ∀ w ∈ se, w.length ≤ 1000) : PCall Try.prog 78 [.int .i64 rate, .agg [.int .i64 ga, .int .u8 s, .int .u8 sh, .int .i64 m, .ro (.ints .i64 g), .ro (.rows 1 (se.map fun w => [.ro (.rows 2 (w.map Sc.row))])), .ro (.rows 1 (st.map fun w => [.ro (.ints .i64 w)])), .ro (.rows 1 (tn.map fun w => [.ro (.rows 5 (w.map Fl.row))])), .ro (.ints .i64 ln)], .int .i64 1] (.bool (linB (offs rate false) se m g ln 1 256)) := by
  have hO := offs_fine hr false
  simp only [Bool.false_eq_true, if_false] at hO
  obtain ⟨ho1, ho2⟩ := hO.len
  have hoz := hO.zero
  have hol := hO.last
  have hq1 : IntKind.i64.wrap 256 = 256 := by decide
  refine pcall_body ty_ok Try.func78 rfl (by rfl) (by simp) ?_
  rw [Try.ntmps78]
  refine swp_seq fun K1 hK1 => ?_
  refine swp_region ty_ok ?_
  try simp (maxSteps := 1000000) [Cells.sub, optL, List.append_eq, List.nil_append, hq1, hss]
  repeat' (first | apply And.intro | intro _)
  any_goals (first | (refine hK1 _ ?_; clear hK1) | (first | omega | (simp only [IntKind.wrap_i64] at *; omega) | (simp_all; done) | (simp_all; omega)))
  refine swp_seq fun K2 hK2 => ?_
  refine swp_seq fun K3 hK3 => ?_
  refine swp_region ty_ok ?_
  try simp (maxSteps := 1000000) [Cells.sub, optL, List.append_eq, List.nil_append, hq1, hss]
  repeat' (first | apply And.intro | intro _)
  any_goals (first | (refine hK3 _ ?_; clear hK3) | (first | omega | (simp only [IntKind.wrap_i64] at *; omega) | (simp_all; done) | (simp_all; omega)))
  refine swp_if fun C4 hC4 => ?_
  try simp (maxSteps := 1000000) [Cells.sub, optL, List.append_eq, List.nil_append, hq1, hss]
  refine hC4 _ (fun hc4 => ?_) (fun hc4 => ?_)
  · clear hC4
    try simp at hc4
    refine swp_seq fun K5 hK5 => ?_
    refine swp_region ty_ok ?_
    try simp (maxSteps := 1000000) [Cells.sub, optL, List.append_eq, List.nil_append, hq1, hss]
    repeat' (first | apply And.intro | intro _)
    any_goals (first | (refine hK5 _ ?_; clear hK5) | (first | omega | (simp only [IntKind.wrap_i64] at *; omega) | (simp_all; done) | (simp_all; omega)))
    refine swp_ret ?_
    simp [fnPost, Try.results78, resP, tupOf]
    exact linB_len (by omega)
  · clear hC4
    try simp at hc4
    refine swp_skip ?_
    simp only [thn, inBlk]
    refine hK2 _ ?_; clear hK2
    refine swp_seq fun K6 hK6 => ?_
    refine swp_region ty_ok ?_
    try simp (maxSteps := 1000000) [Cells.sub, optL, List.append_eq, List.nil_append, hq1, hss]
    repeat' (first | apply And.intro | intro _)
    any_goals (first | (refine hK6 _ ?_; clear hK6) | (first | omega | (simp only [IntKind.wrap_i64] at *; omega) | (simp_all; done) | (simp_all; omega)))
    refine swp_seq fun K7 hK7 => ?_
    refine swp_region ty_ok ?_
    refine runs_cut 2 fun R8 hR8 => ?_
    try simp (maxSteps := 1000000) [Cells.sub, optL, List.append_eq, List.nil_append, hq1, hss, List.take_succ_cons, List.take_zero, List.drop_succ_cons, List.drop_zero]
    repeat' (first | apply And.intro | intro _)
    any_goals (first | (refine hR8 _ ?_; clear hR8) | (first | omega | (simp only [IntKind.wrap_i64] at *; omega) | (simp_all; done) | (simp_all; omega)))
    refine runs_cut 1 fun R9 hR9 => ?_
    try simp (maxSteps := 1000000) [Cells.sub, optL, List.append_eq, List.nil_append, hq1, hss, List.take_succ_cons, List.take_zero, List.drop_succ_cons, List.drop_zero]
    refine .inl ⟨_, (by have h := band_Offsets_ok rate false; rw [if_neg (by omega)] at h; exact h), ?_⟩
    try simp (maxSteps := 1000000) [Cells.sub, optL, List.append_eq, List.nil_append, hq1, hss]
    repeat' (first | apply And.intro | intro _)
    any_goals (first | (refine hR9 _ ?_; clear hR9) | (first | omega | (simp only [IntKind.wrap_i64] at *; omega) | (simp_all; done) | (simp_all; omega)))
    try simp (maxSteps := 1000000) [Cells.sub, optL, List.append_eq, List.nil_append, hq1, hss, List.take_succ_cons, List.take_zero, List.drop_succ_cons, List.drop_zero]
    repeat' (first | apply And.intro | intro _)
    any_goals (first | (refine hK7 _ ?_; clear hK7) | (first | omega | (simp only [IntKind.wrap_i64] at *; omega) | (simp_all; done) | (simp_all; omega)))
    refine swp_seq fun K10 hK10 => ?_
    refine swp_region ty_ok ?_
    try simp (maxSteps := 1000000) [Cells.sub, optL, List.append_eq, List.nil_append, hq1, hss]
    repeat' (first | apply And.intro | intro _)
    any_goals (first | (refine hK10 _ ?_; clear hK10) | (first | omega | (simp only [IntKind.wrap_i64] at *; omega) | (simp_all; done) | (simp_all; omega)))
    refine swp_seq fun K11 hK11 => ?_
    refine swp_seq fun K12 hK12 => ?_
    refine swp_region ty_ok ?_
    try simp (maxSteps := 1000000) [Cells.sub, optL, List.append_eq, List.nil_append, hq1, hss]
    repeat' (first | apply And.intro | intro _)
    any_goals (first | (refine hK12 _ ?_; clear hK12) | (first | omega | (simp only [IntKind.wrap_i64] at *; omega) | (simp_all; done) | (simp_all; omega)))
    refine swp_block ?_
    refine swp_loop 1 (fun m_ s_ => ∃ (w : Nat), (w ≤ 1) ∧ (∀ j < w, linW (offs rate false) se m g ln 256 j = true) ∧ s_ = ⟨[(4, .ptr 0 0 0 1), (8, .ro (.ints .i64 (offs rate false))), (10, .int .i64 256), (34, .int .i64 1), (35, .int .i64 (w : Nat))], [(0, some ⟨.rows 9 [[.int .i64 ga, .int .u8 s, .int .u8 sh, .int .i64 m, .ro (.ints .i64 g), .ro (.rows 1 (se.map fun w => [.ro (.rows 2 (w.map Sc.row))])), .ro (.rows 1 (st.map fun w => [.ro (.ints .i64 w)])), .ro (.rows 1 (tn.map fun w => [.ro (.rows 5 (w.map Fl.row))])), .ro (.ints .i64 ln)]], true, 29⟩)], 1⟩ ∧ m_ = 1 - w) _ ⟨[(4, .ptr 0 0 0 1), (8, .ro (.ints .i64 (offs rate false))), (10, .int .i64 256), (34, .int .i64 1), (35, .int .i64 (0 : Nat))], [(0, some ⟨.rows 9 [[.int .i64 ga, .int .u8 s, .int .u8 sh, .int .i64 m, .ro (.ints .i64 g), .ro (.rows 1 (se.map fun w => [.ro (.rows 2 (w.map Sc.row))])), .ro (.rows 1 (st.map fun w => [.ro (.ints .i64 w)])), .ro (.rows 1 (tn.map fun w => [.ro (.rows 5 (w.map Fl.row))])), .ro (.ints .i64 ln)]], true, 29⟩)], 1⟩ ⟨by simp [getT, PV.lo, lo1], by simp [getH, Blk.lo, Cells.lo, lo1], rfl, by omega⟩ ⟨(0), by omega, by simp, rfl, rfl⟩ ?_
    rintro m_ s_ ⟨w, hL13_0, hL13_1, rfl, rfl⟩ KL13 hL13
    have hww : IntKind.i64.wrap ((w : Int) + 1) = (((w + 1 : Nat)) : Int) := wnext (by omega)
    refine swp_seq fun K14 hK14 => ?_
    refine swp_region ty_ok ?_
    try simp (maxSteps := 1000000) [Cells.sub, optL, List.append_eq, List.nil_append, hq1, hss]
    repeat' (first | apply And.intro | intro _)
    any_goals (first | (refine hK14 _ ?_; clear hK14) | (first | omega | (simp only [IntKind.wrap_i64] at *; omega) | (simp_all; done) | (simp_all; omega)))
    refine swp_seq fun K15 hK15 => ?_
    refine swp_if fun C16 hC16 => ?_
    try simp (maxSteps := 1000000) [Cells.sub, optL, List.append_eq, List.nil_append, hq1, hss]
    refine hC16 _ (fun hc16 => ?_) (fun hc16 => ?_)
    · clear hC16
      try simp at hc16
      refine swp_skip ?_
      simp only [thn, inBlk]
      refine hK15 _ ?_; clear hK15
      refine swp_seq fun K17 hK17 => ?_
      refine swp_block ?_
      refine swp_seq fun K18 hK18 => ?_
      refine swp_region ty_ok ?_
      try simp (maxSteps := 1000000) [Cells.sub, optL, List.append_eq, List.nil_append, hq1, hss]
      repeat' (first | apply And.intro | intro _)
      any_goals (first | (refine hK18 _ ?_; clear hK18) | (first | omega | (simp only [IntKind.wrap_i64] at *; omega) | (simp_all; done) | (simp_all; omega)))
      refine swp_seq fun K19 hK19 => ?_
      have hg0 : grpN s sh m g (w : Int) = (grp g (w : Int) : Nat) := (grp_ok hm11 (by omega)).2
      have hE0 : grpE s sh m g (w : Int) = 0 := (grp_ok hm11 (by omega)).1
      refine swp_region ty_ok ?_
      refine runs_cut 3 fun R20 hR20 => ?_
      try simp (maxSteps := 1000000) [Cells.sub, optL, List.append_eq, List.nil_append, hq1, hss, List.take_succ_cons, List.take_zero, List.drop_succ_cons, List.drop_zero]
      repeat' (first | apply And.intro | intro _)
      any_goals (first | (refine hR20 _ ?_; clear hR20) | (first | omega | (simp only [IntKind.wrap_i64] at *; omega) | (simp_all; done) | (simp_all; omega)))
      refine runs_cut 1 fun R21 hR21 => ?_
      try simp (maxSteps := 1000000) [Cells.sub, optL, List.append_eq, List.nil_append, hq1, hss, List.take_succ_cons, List.take_zero, List.drop_succ_cons, List.drop_zero]
      refine .inl ⟨_, (by have h := info_Group_ok s sh m g (by omega) (w : Int); rw [hg0, hE0] at h; exact h), ?_⟩
      try simp (maxSteps := 1000000) [Cells.sub, optL, List.append_eq, List.nil_append, hq1, hss]
      repeat' (first | apply And.intro | intro _)
      any_goals (first | (refine hR21 _ ?_; clear hR21) | (first | omega | (simp only [IntKind.wrap_i64] at *; omega) | (simp_all; done) | (simp_all; omega)))
      try simp (maxSteps := 1000000) [Cells.sub, optL, List.append_eq, List.nil_append, hq1, hss, List.take_succ_cons, List.take_zero, List.drop_succ_cons, List.drop_zero]
      repeat' (first | apply And.intro | intro _)
      any_goals (first | (refine hK19 _ ?_; clear hK19) | (first | omega | (simp only [IntKind.wrap_i64] at *; omega) | (simp_all; done) | (simp_all; omega)))
      refine swp_seq fun K22 hK22 => ?_
      refine swp_region ty_ok ?_
      try simp (maxSteps := 1000000) [Cells.sub, optL, List.append_eq, List.nil_append, hq1, hss]
      repeat' (first | apply And.intro | intro _)
      any_goals (first | (refine hK22 _ ?_; clear hK22) | (first | omega | (simp only [IntKind.wrap_i64] at *; omega) | (simp_all; done) | (simp_all; omega)))
      refine swp_seq fun K23 hK23 => ?_
      have hln : ln.length = 256 := by omega
      have hw1 : IntKind.i64.wrap ((w : Int) * 256) = (w : Int) * 256 := w64 (by omega)
      have hw2 : IntKind.i64.wrap (((w : Int) + 1) * 256) = ((w : Int) + 1) * 256 := w64 (by omega)
      have hw3 : IntKind.i64.wrap ((w : Int) + 1) = (w : Int) + 1 := w64 (by omega)
      have hw4 : ((w : Int) * 256).toNat = w * 256 := by omega
      have hw5 : (((w : Int) + 1) * 256).toNat - w * 256 = 256 := by omega
      have hw6 : min 256 (ln.length - w * 256) = 256 := by omega
      refine swp_region ty_ok ?_
      try simp (maxSteps := 1000000) [Cells.sub, optL, List.append_eq, List.nil_append, hq1, hss, hw1, hw2, hw3, hw4, hw5, hw6]
      repeat' (first | apply And.intro | intro _)
      any_goals (first | (refine hK23 _ ?_; clear hK23) | (first | omega | (simp only [IntKind.wrap_i64] at *; omega) | (simp_all; done) | (simp_all; omega)))
      refine swp_block ?_
      refine swp_loop 1 (fun m_ s_ => ∃ (i : Nat) (b : Nat), (i ≤ 256) ∧ (b + 1 < (offs rate false).length) ∧ ((offs rate false)[b]?.getD 0 ≤ i) ∧ (∀ j < i, okV (offs rate false) se m (grp g (w : Nat) : Nat) (j : Nat) (ln[w * 256 + j]?.getD 0) = true) ∧ s_ = ⟨[(4, .ptr 0 0 0 1), (8, .ro (.ints .i64 (offs rate false))), (10, .int .i64 256), (34, .int .i64 1), (35, .int .i64 (w : Nat)), (11, .int .i64 (w : Nat)), (12, .int .i64 (grp g (w : Int) : Nat)), (14, .int .i64 (b : Nat)), (54, .ro (.ints .i64 ((ln.drop (w * 256)).take 256))), (55, .int .i64 256), (56, .int .i64 (i : Nat))], [(0, some ⟨.rows 9 [[.int .i64 ga, .int .u8 s, .int .u8 sh, .int .i64 m, .ro (.ints .i64 g), .ro (.rows 1 (se.map fun w => [.ro (.rows 2 (w.map Sc.row))])), .ro (.rows 1 (st.map fun w => [.ro (.ints .i64 w)])), .ro (.rows 1 (tn.map fun w => [.ro (.rows 5 (w.map Fl.row))])), .ro (.ints .i64 ln)]], true, 29⟩)], 1⟩ ∧ m_ = 256 - i) _ ⟨[(4, .ptr 0 0 0 1), (8, .ro (.ints .i64 (offs rate false))), (10, .int .i64 256), (34, .int .i64 1), (35, .int .i64 (w : Nat)), (11, .int .i64 (w : Nat)), (12, .int .i64 (grp g (w : Int) : Nat)), (14, .int .i64 (0 : Nat)), (54, .ro (.ints .i64 ((ln.drop (w * 256)).take 256))), (55, .int .i64 256), (56, .int .i64 (0 : Nat))], [(0, some ⟨.rows 9 [[.int .i64 ga, .int .u8 s, .int .u8 sh, .int .i64 m, .ro (.ints .i64 g), .ro (.rows 1 (se.map fun w => [.ro (.rows 2 (w.map Sc.row))])), .ro (.rows 1 (st.map fun w => [.ro (.ints .i64 w)])), .ro (.rows 1 (tn.map fun w => [.ro (.rows 5 (w.map Fl.row))])), .ro (.ints .i64 ln)]], true, 29⟩)], 1⟩ ⟨by simp [getT, PV.lo, lo1, hw4, hw5, hw6], by simp [getH, Blk.lo, Cells.lo, lo1], rfl, by omega⟩ ⟨(0), (0), by omega, by omega, by (rw [hoz]; omega), by simp, rfl, rfl⟩ ?_
      rintro m_ s_ ⟨i, b, hL24_0, hL24_1, hL24_2, hL24_3, rfl, rfl⟩ KL24 hL24
      have hiw : IntKind.i64.wrap ((i : Int) + 1) = (((i + 1 : Nat)) : Int) := wnext (by omega)
      refine swp_seq fun K25 hK25 => ?_
      refine swp_region ty_ok ?_
      try simp (maxSteps := 1000000) [Cells.sub, optL, List.append_eq, List.nil_append, hq1, hss]
      repeat' (first | apply And.intro | intro _)
      any_goals (first | (refine hK25 _ ?_; clear hK25) | (first | omega | (simp only [IntKind.wrap_i64] at *; omega) | (simp_all; done) | (simp_all; omega)))
      refine swp_seq fun K26 hK26 => ?_
      refine swp_if fun C27 hC27 => ?_
      try simp (maxSteps := 1000000) [Cells.sub, optL, List.append_eq, List.nil_append, hq1, hss]
      refine hC27 _ (fun hc27 => ?_) (fun hc27 => ?_)
      · clear hC27
        try simp at hc27
        refine swp_skip ?_
        simp only [thn, inBlk]
        refine hK26 _ ?_; clear hK26
        refine swp_seq fun K28 hK28 => ?_
        refine swp_block ?_
        refine swp_seq fun K29 hK29 => ?_
        have hsv : ((ln.drop (w * 256)).take 256)[i]?.getD 0 = (ln[w * 256 + i]?.getD 0) := sub_at (by omega)
        refine swp_region ty_ok ?_
        try simp (maxSteps := 1000000) [Cells.sub, optL, List.append_eq, List.nil_append, hq1, hss, hsv]
        repeat' (first | apply And.intro | intro _)
        any_goals (first | (refine hK29 _ ?_; clear hK29) | (first | omega | (simp only [IntKind.wrap_i64] at *; omega) | (simp_all; done) | (simp_all; omega)))
        refine swp_seq fun K30 hK30 => ?_
        refine swp_seq fun K31 hK31 => ?_
        
        refine swp_region ty_ok ?_
        try simp (maxSteps := 1000000) [Cells.sub, optL, List.append_eq, List.nil_append, hq1, hss]
        repeat' (first | apply And.intro | intro _)
        any_goals (first | (refine hK31 _ ?_; clear hK31) | (first | omega | (simp only [IntKind.wrap_i64] at *; omega) | (simp_all; done) | (simp_all; omega)))
        refine swp_if fun C32 hC32 => ?_
        try simp (maxSteps := 1000000) [Cells.sub, optL, List.append_eq, List.nil_append, hq1, hss]
        refine hC32 _ (fun hc32 => ?_) (fun hc32 => ?_)
        · clear hC32
          try simp at hc32
          refine swp_exit ?_
          simp [thn, inBlk]
          refine hK28 _ ?_; clear hK28
          refine swp_region ty_ok ?_
          try simp (maxSteps := 1000000) [Cells.sub, optL, List.append_eq, List.nil_append, hq1, hss]
          repeat' apply And.intro
          any_goals (try omega)
          first | refine hL24 _ ⟨[(4, .ptr 0 0 0 1), (8, .ro (.ints .i64 (offs rate false))), (10, .int .i64 256), (34, .int .i64 1), (35, .int .i64 (w : Nat)), (11, .int .i64 (w : Nat)), (12, .int .i64 (grp g (w : Int) : Nat)), (14, .int .i64 (c : Nat)), (54, .ro (.ints .i64 ((ln.drop (w * 256)).take 256))), (55, .int .i64 256), (56, .int .i64 ((i + 1) : Nat))], [(0, some ⟨.rows 9 [[.int .i64 ga, .int .u8 s, .int .u8 sh, .int .i64 m, .ro (.ints .i64 g), .ro (.rows 1 (se.map fun w => [.ro (.rows 2 (w.map Sc.row))])), .ro (.rows 1 (st.map fun w => [.ro (.ints .i64 w)])), .ro (.rows 1 (tn.map fun w => [.ro (.rows 5 (w.map Fl.row))])), .ro (.ints .i64 ln)]], true, 29⟩)], 1⟩ _ ?_ ⟨(i + 1), (c), by omega, by omega, by (push_cast; omega), by (first | exact lt_step (by assumption) (okV_z (by assumption)) | exact lt_step (by assumption) (okV_y (by rw [hbk]; exact hc32))), rfl, rfl⟩ ⟨by simp [getT, PV.lo, lo1, hiw], by simp [getH, Blk.lo, Cells.lo, lo1], rfl, by omega⟩ | refine hL24 _ ⟨[(4, .ptr 0 0 0 1), (8, .ro (.ints .i64 (offs rate false))), (10, .int .i64 256), (34, .int .i64 1), (35, .int .i64 (w : Nat)), (11, .int .i64 (w : Nat)), (12, .int .i64 (grp g (w : Int) : Nat)), (14, .int .i64 (b : Nat)), (54, .ro (.ints .i64 ((ln.drop (w * 256)).take 256))), (55, .int .i64 256), (56, .int .i64 ((i + 1) : Nat))], [(0, some ⟨.rows 9 [[.int .i64 ga, .int .u8 s, .int .u8 sh, .int .i64 m, .ro (.ints .i64 g), .ro (.rows 1 (se.map fun w => [.ro (.rows 2 (w.map Sc.row))])), .ro (.rows 1 (st.map fun w => [.ro (.ints .i64 w)])), .ro (.rows 1 (tn.map fun w => [.ro (.rows 5 (w.map Fl.row))])), .ro (.ints .i64 ln)]], true, 29⟩)], 1⟩ _ ?_ ⟨(i + 1), (b), by omega, by omega, by (push_cast; omega), by (first | exact lt_step (by assumption) (okV_z (by assumption)) | exact lt_step (by assumption) (okV_y (by rw [hbk]; exact hc32))), rfl, rfl⟩ ⟨by simp [getT, PV.lo, lo1, hiw], by simp [getH, Blk.lo, Cells.lo, lo1], rfl, by omega⟩
          omega
        · clear hC32
          try simp at hc32
          refine swp_skip ?_
          simp only [thn, inBlk]
          refine hK30 _ ?_; clear hK30
          refine swp_seq fun K33 hK33 => ?_
          refine swp_block ?_
          refine swp_loop 1 (fun m_ s_ => ∃ (c : Nat), (c + 1 < (offs rate false).length) ∧ ((offs rate false)[c]?.getD 0 ≤ i) ∧ s_ = ⟨[(4, .ptr 0 0 0 1), (8, .ro (.ints .i64 (offs rate false))), (10, .int .i64 256), (34, .int .i64 1), (35, .int .i64 (w : Nat)), (11, .int .i64 (w : Nat)), (12, .int .i64 (grp g (w : Int) : Nat)), (14, .int .i64 (c : Nat)), (54, .ro (.ints .i64 ((ln.drop (w * 256)).take 256))), (55, .int .i64 256), (56, .int .i64 (i : Nat)), (15, .int .i64 (i : Nat)), (16, .int .i64 (ln[w * 256 + i]?.getD 0))], [(0, some ⟨.rows 9 [[.int .i64 ga, .int .u8 s, .int .u8 sh, .int .i64 m, .ro (.ints .i64 g), .ro (.rows 1 (se.map fun w => [.ro (.rows 2 (w.map Sc.row))])), .ro (.rows 1 (st.map fun w => [.ro (.ints .i64 w)])), .ro (.rows 1 (tn.map fun w => [.ro (.rows 5 (w.map Fl.row))])), .ro (.ints .i64 ln)]], true, 29⟩)], 1⟩ ∧ m_ = (offs rate false).length - c) _ ⟨[(4, .ptr 0 0 0 1), (8, .ro (.ints .i64 (offs rate false))), (10, .int .i64 256), (34, .int .i64 1), (35, .int .i64 (w : Nat)), (11, .int .i64 (w : Nat)), (12, .int .i64 (grp g (w : Int) : Nat)), (14, .int .i64 (b : Nat)), (54, .ro (.ints .i64 ((ln.drop (w * 256)).take 256))), (55, .int .i64 256), (56, .int .i64 (i : Nat)), (15, .int .i64 (i : Nat)), (16, .int .i64 (ln[w * 256 + i]?.getD 0))], [(0, some ⟨.rows 9 [[.int .i64 ga, .int .u8 s, .int .u8 sh, .int .i64 m, .ro (.ints .i64 g), .ro (.rows 1 (se.map fun w => [.ro (.rows 2 (w.map Sc.row))])), .ro (.rows 1 (st.map fun w => [.ro (.ints .i64 w)])), .ro (.rows 1 (tn.map fun w => [.ro (.rows 5 (w.map Fl.row))])), .ro (.ints .i64 ln)]], true, 29⟩)], 1⟩ ⟨by simp [getT, PV.lo, lo1], by simp [getH, Blk.lo, Cells.lo, lo1], rfl, by omega⟩ ⟨(b), by (first | omega | (simp only [IntKind.wrap_i64] at *; omega) | (simp_all; done) | (simp_all; omega)), by (first | omega | (simp only [IntKind.wrap_i64] at *; omega) | (simp_all; done) | (simp_all; omega)), rfl, rfl⟩ ?_
          rintro m_ s_ ⟨c, hL34_0, hL34_1, rfl, rfl⟩ KL34 hL34
          refine swp_seq fun K35 hK35 => ?_
          refine swp_seq fun K36 hK36 => ?_
          have hc1 : IntKind.i64.wrap ((c : Int) + 1) = (c : Int) + 1 := w64 (by omega)
          have hc2 : ((c : Int) + 1).toNat = c + 1 := by omega
          refine swp_region ty_ok ?_
          try simp (maxSteps := 1000000) [Cells.sub, optL, List.append_eq, List.nil_append, hq1, hss, hc1, hc2]
          repeat' (first | apply And.intro | intro _)
          any_goals (first | (refine hK36 _ ?_; clear hK36) | (first | omega | (simp only [IntKind.wrap_i64] at *; omega) | (simp_all; done) | (simp_all; omega)))
          refine swp_if fun C37 hC37 => ?_
          try simp (maxSteps := 1000000) [Cells.sub, optL, List.append_eq, List.nil_append, hq1, hss, hc1, hc2]
          refine hC37 _ (fun hc37 => ?_) (fun hc37 => ?_)
          · clear hC37
            try simp at hc37
            refine swp_skip ?_
            simp only [thn, inBlk]
            refine hK35 _ ?_; clear hK35
            refine swp_block ?_
            refine swp_region ty_ok ?_
            try simp (maxSteps := 1000000) [Cells.sub, optL, List.append_eq, List.nil_append, hq1, hss]
            repeat' apply And.intro
            any_goals (try omega)
            refine hL34 _ ⟨[(4, .ptr 0 0 0 1), (8, .ro (.ints .i64 (offs rate false))), (10, .int .i64 256), (34, .int .i64 1), (35, .int .i64 (w : Nat)), (11, .int .i64 (w : Nat)), (12, .int .i64 (grp g (w : Int) : Nat)), (14, .int .i64 ((c + 1) : Nat)), (54, .ro (.ints .i64 ((ln.drop (w * 256)).take 256))), (55, .int .i64 256), (56, .int .i64 (i : Nat)), (15, .int .i64 (i : Nat)), (16, .int .i64 (ln[w * 256 + i]?.getD 0))], [(0, some ⟨.rows 9 [[.int .i64 ga, .int .u8 s, .int .u8 sh, .int .i64 m, .ro (.ints .i64 g), .ro (.rows 1 (se.map fun w => [.ro (.rows 2 (w.map Sc.row))])), .ro (.rows 1 (st.map fun w => [.ro (.ints .i64 w)])), .ro (.rows 1 (tn.map fun w => [.ro (.rows 5 (w.map Fl.row))])), .ro (.ints .i64 ln)]], true, 29⟩)], 1⟩ _ ?_ ⟨(c + 1), by (have hcl : c + 2 < (offs rate false).length := (by rcases Nat.lt_or_ge (c + 2) (offs rate false).length with h | h; exact h; rw [show (offs rate false).length - 1 = c + 1 by omega] at hol; omega); omega), by omega, rfl, rfl⟩ ⟨by simp [getT, PV.lo, lo1, hc1], by simp [getH, Blk.lo, Cells.lo, lo1], rfl, by omega⟩
            omega
          · clear hC37
            try simp at hc37
            refine swp_exit ?_
            simp [thn, inBlk]
            refine hK33 _ ?_; clear hK33
            refine swp_seq fun K38 hK38 => ?_
            have hbc : bnd (offs rate false) (i : Nat) = c := bnd_at hO (by omega) (by omega) (by omega)
            refine swp_region ty_ok ?_
            try simp (maxSteps := 1000000) [Cells.sub, optL, List.append_eq, List.nil_append, hq1, hss]
            repeat' (first | apply And.intro | intro _)
            any_goals (first | (refine hK38 _ ?_; clear hK38) | (first | omega | (simp only [IntKind.wrap_i64] at *; omega) | (simp_all; done) | (simp_all; omega)))
            refine swp_seq fun K39 hK39 => ?_
            refine swp_seq fun K40 hK40 => ?_
            refine swp_region ty_ok ?_
            try simp (maxSteps := 1000000) [Cells.sub, optL, List.append_eq, List.nil_append, hq1, hss]
            repeat' (first | apply And.intro | intro _)
            any_goals (first | (refine hK40 _ ?_; clear hK40) | (first | omega | (simp only [IntKind.wrap_i64] at *; omega) | (simp_all; done) | (simp_all; omega)))
            refine swp_if fun C41 hC41 => ?_
            try simp (maxSteps := 1000000) [Cells.sub, optL, List.append_eq, List.nil_append, hq1, hss]
            refine hC41 _ (fun hc41 => ?_) (fun hc41 => ?_)
            · clear hC41
              try simp at hc41
              have hbk := bkA_y (se := se) (m := m) (gi := (grp g (w : Nat) : Nat)) hbc (by omega)
              refine swp_region ty_ok ?_
              refine runs_cut 4 fun R42 hR42 => ?_
              try simp (maxSteps := 1000000) [Cells.sub, optL, List.append_eq, List.nil_append, hq1, hss, List.take_succ_cons, List.take_zero, List.drop_succ_cons, List.drop_zero]
              repeat' (first | apply And.intro | intro _)
              any_goals (first | (refine hR42 _ ?_; clear hR42) | (first | omega | (simp only [IntKind.wrap_i64] at *; omega) | (simp_all; done) | (simp_all; omega)))
              refine runs_cut 1 fun R43 hR43 => ?_
              try simp (maxSteps := 1000000) [Cells.sub, optL, List.append_eq, List.nil_append, hq1, hss, List.take_succ_cons, List.take_zero, List.drop_succ_cons, List.drop_zero]
              refine .inl ⟨_, lane_Book_ok se (grp g (w : Int) : Nat) (c : Nat) hs (by omega), ?_⟩
              try simp (maxSteps := 1000000) [Cells.sub, optL, List.append_eq, List.nil_append, hq1, hss]
              repeat' (first | apply And.intro | intro _)
              any_goals (first | (refine hR43 _ ?_; clear hR43) | (first | omega | (simp only [IntKind.wrap_i64] at *; omega) | (simp_all; done) | (simp_all; omega)))
              try simp (maxSteps := 1000000) [Cells.sub, optL, List.append_eq, List.nil_append, hq1, hss, List.take_succ_cons, List.take_zero, List.drop_succ_cons, List.drop_zero]
              repeat' (first | apply And.intro | intro _)
              any_goals (first | (refine hK39 _ ?_; clear hK39) | (first | omega | (simp only [IntKind.wrap_i64] at *; omega) | (simp_all; done) | (simp_all; omega)))
              refine swp_seq fun K44 hK44 => ?_
              refine swp_region ty_ok ?_
              refine runs_cut 9 fun R45 hR45 => ?_
              try simp (maxSteps := 1000000) [Cells.sub, optL, List.append_eq, List.nil_append, hq1, hss, List.take_succ_cons, List.take_zero, List.drop_succ_cons, List.drop_zero]
              repeat' (first | apply And.intro | intro _)
              any_goals (first | (refine hR45 _ ?_; clear hR45) | (first | omega | (simp only [IntKind.wrap_i64] at *; omega) | (simp_all; done) | (simp_all; omega)))
              refine runs_cut 1 fun R46 hR46 => ?_
              try simp (maxSteps := 1000000) [Cells.sub, optL, List.append_eq, List.nil_append, hq1, hss, List.take_succ_cons, List.take_zero, List.drop_succ_cons, List.drop_zero]
              first | refine .inl ⟨_, by (intros; exact Or.inl ⟨lane_fits_ok _ (ln[w * 256 + i]?.getD 0) (by omega), rfl⟩), ?_⟩ | refine .inl ⟨_, by (intros; exact Or.inl (lane_fits_ok _ (ln[w * 256 + i]?.getD 0) (by omega))), ?_⟩ | refine .inl ⟨.bool true, ?_⟩
              repeat' (first | apply And.intro | intro _)
              any_goals (first | (refine hR46 _ ?_; clear hR46) | (first | omega | (simp only [IntKind.wrap_i64] at *; omega) | (simp_all; done) | (simp_all; omega)))
              try simp (maxSteps := 1000000) [Cells.sub, optL, List.append_eq, List.nil_append, hq1, hss, List.take_succ_cons, List.take_zero, List.drop_succ_cons, List.drop_zero]
              repeat' (first | apply And.intro | intro _)
              any_goals (first | (refine hK44 _ ?_; clear hK44) | (first | omega | (simp only [IntKind.wrap_i64] at *; omega) | (simp_all; done) | (simp_all; omega)))
              refine swp_if fun C47 hC47 => ?_
              try simp (maxSteps := 1000000) [Cells.sub, optL, List.append_eq, List.nil_append, hq1, hss]
              refine hC47 _ (fun hc47 => ?_) (fun hc47 => ?_)
              · clear hC47
                try simp at hc47
                refine swp_seq fun K48 hK48 => ?_
                refine swp_region ty_ok ?_
                try simp (maxSteps := 1000000) [Cells.sub, optL, List.append_eq, List.nil_append, hq1, hss]
                repeat' (first | apply And.intro | intro _)
                any_goals (first | (refine hK48 _ ?_; clear hK48) | (first | omega | (simp only [IntKind.wrap_i64] at *; omega) | (simp_all; done) | (simp_all; omega)))
                refine swp_ret ?_
                simp [fnPost, Try.results78, resP, tupOf]
                exact linB_bad (w := w) (i := i) (by omega) (by omega) (okV_n (by assumption) (by rw [hbk]; exact hc47))
              · clear hC47
                try simp at hc47
                refine swp_skip ?_
                simp only [thn, inBlk]
                refine hK28 _ ?_; clear hK28
                refine swp_region ty_ok ?_
                try simp (maxSteps := 1000000) [Cells.sub, optL, List.append_eq, List.nil_append, hq1, hss]
                repeat' apply And.intro
                any_goals (try omega)
                first | refine hL24 _ ⟨[(4, .ptr 0 0 0 1), (8, .ro (.ints .i64 (offs rate false))), (10, .int .i64 256), (34, .int .i64 1), (35, .int .i64 (w : Nat)), (11, .int .i64 (w : Nat)), (12, .int .i64 (grp g (w : Int) : Nat)), (14, .int .i64 (c : Nat)), (54, .ro (.ints .i64 ((ln.drop (w * 256)).take 256))), (55, .int .i64 256), (56, .int .i64 ((i + 1) : Nat))], [(0, some ⟨.rows 9 [[.int .i64 ga, .int .u8 s, .int .u8 sh, .int .i64 m, .ro (.ints .i64 g), .ro (.rows 1 (se.map fun w => [.ro (.rows 2 (w.map Sc.row))])), .ro (.rows 1 (st.map fun w => [.ro (.ints .i64 w)])), .ro (.rows 1 (tn.map fun w => [.ro (.rows 5 (w.map Fl.row))])), .ro (.ints .i64 ln)]], true, 29⟩)], 1⟩ _ ?_ ⟨(i + 1), (c), by omega, by omega, by (push_cast; omega), by (first | exact lt_step (by assumption) (okV_z (by assumption)) | exact lt_step (by assumption) (okV_y (by rw [hbk]; exact hc47))), rfl, rfl⟩ ⟨by simp [getT, PV.lo, lo1, hiw], by simp [getH, Blk.lo, Cells.lo, lo1], rfl, by omega⟩ | refine hL24 _ ⟨[(4, .ptr 0 0 0 1), (8, .ro (.ints .i64 (offs rate false))), (10, .int .i64 256), (34, .int .i64 1), (35, .int .i64 (w : Nat)), (11, .int .i64 (w : Nat)), (12, .int .i64 (grp g (w : Int) : Nat)), (14, .int .i64 (b : Nat)), (54, .ro (.ints .i64 ((ln.drop (w * 256)).take 256))), (55, .int .i64 256), (56, .int .i64 ((i + 1) : Nat))], [(0, some ⟨.rows 9 [[.int .i64 ga, .int .u8 s, .int .u8 sh, .int .i64 m, .ro (.ints .i64 g), .ro (.rows 1 (se.map fun w => [.ro (.rows 2 (w.map Sc.row))])), .ro (.rows 1 (st.map fun w => [.ro (.ints .i64 w)])), .ro (.rows 1 (tn.map fun w => [.ro (.rows 5 (w.map Fl.row))])), .ro (.ints .i64 ln)]], true, 29⟩)], 1⟩ _ ?_ ⟨(i + 1), (b), by omega, by omega, by (push_cast; omega), by (first | exact lt_step (by assumption) (okV_z (by assumption)) | exact lt_step (by assumption) (okV_y (by rw [hbk]; exact hc47))), rfl, rfl⟩ ⟨by simp [getT, PV.lo, lo1, hiw], by simp [getH, Blk.lo, Cells.lo, lo1], rfl, by omega⟩
                omega
            · clear hC41
              try simp at hc41
              refine swp_skip ?_
              simp only [thn, inBlk]
              refine hK39 _ ?_; clear hK39
              refine swp_seq fun K49 hK49 => ?_
              refine swp_region ty_ok ?_
              refine runs_cut 9 fun R50 hR50 => ?_
              try simp (maxSteps := 1000000) [Cells.sub, optL, List.append_eq, List.nil_append, hq1, hss, List.take_succ_cons, List.take_zero, List.drop_succ_cons, List.drop_zero]
              repeat' (first | apply And.intro | intro _)
              any_goals (first | (refine hR50 _ ?_; clear hR50) | (first | omega | (simp only [IntKind.wrap_i64] at *; omega) | (simp_all; done) | (simp_all; omega)))
              refine runs_cut 1 fun R51 hR51 => ?_
              try simp (maxSteps := 1000000) [Cells.sub, optL, List.append_eq, List.nil_append, hq1, hss, List.take_succ_cons, List.take_zero, List.drop_succ_cons, List.drop_zero]
              first | refine .inl ⟨_, by (intros; exact Or.inl ⟨lane_fits_ok _ (ln[w * 256 + i]?.getD 0) (by omega), rfl⟩), ?_⟩ | refine .inl ⟨_, by (intros; exact Or.inl (lane_fits_ok _ (ln[w * 256 + i]?.getD 0) (by omega))), ?_⟩ | refine .inl ⟨.bool true, ?_⟩
              repeat' (first | apply And.intro | intro _)
              any_goals (first | (refine hR51 _ ?_; clear hR51) | (first | omega | (simp only [IntKind.wrap_i64] at *; omega) | (simp_all; done) | (simp_all; omega)))
              try simp (maxSteps := 1000000) [Cells.sub, optL, List.append_eq, List.nil_append, hq1, hss, List.take_succ_cons, List.take_zero, List.drop_succ_cons, List.drop_zero]
              repeat' (first | apply And.intro | intro _)
              any_goals (first | (refine hK49 _ ?_; clear hK49) | (first | omega | (simp only [IntKind.wrap_i64] at *; omega) | (simp_all; done) | (simp_all; omega)))
              refine swp_if fun C52 hC52 => ?_
              try simp (maxSteps := 1000000) [Cells.sub, optL, List.append_eq, List.nil_append, hq1, hss]
              refine hC52 _ (fun hc52 => ?_) (fun hc52 => ?_)
              · clear hC52
                try simp at hc52
                refine swp_seq fun K53 hK53 => ?_
                refine swp_region ty_ok ?_
                try simp (maxSteps := 1000000) [Cells.sub, optL, List.append_eq, List.nil_append, hq1, hss]
                repeat' (first | apply And.intro | intro _)
                any_goals (first | (refine hK53 _ ?_; clear hK53) | (first | omega | (simp only [IntKind.wrap_i64] at *; omega) | (simp_all; done) | (simp_all; omega)))
                refine swp_ret ?_
                simp [fnPost, Try.results78, resP, tupOf]
                exact linB_bad (w := w) (i := i) (by omega) (by omega) (okV_no0 (by assumption) (bkA_n hbc (by omega)))
              · exact absurd hc52 (by simp)
      · clear hC27
        try simp at hc27
        refine swp_exit ?_
        simp [thn, inBlk]
        refine hK17 _ ?_; clear hK17
        refine swp_region ty_ok ?_
        try simp (maxSteps := 1000000) [Cells.sub, optL, List.append_eq, List.nil_append, hq1, hss]
        repeat' apply And.intro
        any_goals (try omega)
        refine hL13 _ ⟨[(4, .ptr 0 0 0 1), (8, .ro (.ints .i64 (offs rate false))), (10, .int .i64 256), (34, .int .i64 1), (35, .int .i64 ((w + 1) : Nat))], [(0, some ⟨.rows 9 [[.int .i64 ga, .int .u8 s, .int .u8 sh, .int .i64 m, .ro (.ints .i64 g), .ro (.rows 1 (se.map fun w => [.ro (.rows 2 (w.map Sc.row))])), .ro (.rows 1 (st.map fun w => [.ro (.ints .i64 w)])), .ro (.rows 1 (tn.map fun w => [.ro (.rows 5 (w.map Fl.row))])), .ro (.ints .i64 ln)]], true, 29⟩)], 1⟩ _ ?_ ⟨(w + 1), by omega, by (refine lt_step (by assumption) (range_all fun j hj => ?_); exact (by assumption : ∀ j < i, okV (offs rate false) se m (grp g (w : Nat) : Nat) (j : Nat) (ln[w * 256 + j]?.getD 0) = true) j (by omega)), rfl, rfl⟩ ⟨by simp [getT, PV.lo, lo1, hww], by simp [getH, Blk.lo, Cells.lo, lo1], rfl, by omega⟩
        omega
    · clear hC16
      try simp at hc16
      refine swp_exit ?_
      simp [thn, inBlk]
      refine hK11 _ ?_; clear hK11
      refine swp_seq fun K54 hK54 => ?_
      refine swp_region ty_ok ?_
      try simp (maxSteps := 1000000) [Cells.sub, optL, List.append_eq, List.nil_append, hq1, hss]
      repeat' (first | apply And.intro | intro _)
      any_goals (first | (refine hK54 _ ?_; clear hK54) | (first | omega | (simp only [IntKind.wrap_i64] at *; omega) | (simp_all; done) | (simp_all; omega)))
      refine swp_ret ?_
      simp [fnPost, Try.results78, resP, tupOf]
      exact linB_ok (w := w) (by omega) (by omega) (by assumption)

def linC (rate s m : Int) (g : List Int) (se : List (List Sc)) (ln : List Int) : Bool := if s = 2 then linB (offs rate true) se m g ln 8 32 else linB (offs rate false) se m g ln 1 256
theorem lines_any (rate : Int) (ga s sh m : Int) (g : List Int) (se : List (List Sc)) (st : List (List Int)) (tn : List (List Fl)) (ln : List Int) (hr : 0 ≤ rate ∧ rate ≤ 11) (hm11 : mayI 11 s sh m g = true) (hx : g.length ≤ 1000) (hs : ∀ w ∈ se, w.length ≤ 1000) : PCall Try.prog 78 [.int .i64 rate, .agg [.int .i64 ga, .int .u8 s, .int .u8 sh, .int .i64 m, .ro (.ints .i64 g), .ro (.rows 1 (se.map fun w => [.ro (.rows 2 (w.map Sc.row))])), .ro (.rows 1 (st.map fun w => [.ro (.ints .i64 w)])), .ro (.rows 1 (tn.map fun w => [.ro (.rows 5 (w.map Fl.row))])), .ro (.ints .i64 ln)], .int .i64 (winI s sh m g)] (.bool (linC rate s m g se ln)) := by
  by_cases h : s = 2
  · have hw : winI s sh m g = 8 := by rw [winI, if_pos hm11, if_pos h]
    rw [hw, linC, if_pos h]
    subst h
    exact lines_s rate ga sh m g se st tn ln hr hm11 hw hx hs
  · have hw : winI s sh m g = 1 := by rw [winI, if_pos hm11, if_neg h]
    rw [hw, linC, if_neg h]
    exact lines_l rate ga s sh m g se st tn ln hr h hm11 hw hx hs
def chL (rate ga s sh m : Int) (g : List Int) (se : List (List Sc)) (st : List (List Int)) (tn : List (List Fl)) (ln : List Int) : Int :=
  if chI rate s sh m g = 0 then (if (decide (0 ≤ ga) && decide (ga ≤ 255)) = true ∧ secB m g se = true ∧ stpB ga m g se st = true ∧ filA s (winI s sh m g) tn = true ∧ linC rate s m g se ln = true then 0 else 8) else chI rate s sh m g
def LenOk (g : List Int) (se : List (List Sc)) (st : List (List Int)) (tn : List (List Fl)) : Prop := (g.length ≤ 1000 ∧ se.length ≤ 1000 ∧ st.length ≤ 1000 ∧ tn.length ≤ 1000) ∧ (∀ w ∈ se, w.length ≤ 1000) ∧ (∀ w ∈ st, w.length ≤ 1000) ∧ ∀ w ∈ tn, w.length ≤ 1000 ∧ ∀ f ∈ w, f.co.length ≤ 1000

theorem lck1_ok (ga s sh m : Int) (g : List Int) (se : List (List Sc)) (st : List (List Int)) (tn : List (List Fl)) (ln : List Int) : PCall Try.prog 70 [.rop (.rows 9 [[.int .i64 ga, .int .u8 s, .int .u8 sh, .int .i64 m, .ro (.ints .i64 g), .ro (.rows 1 (se.map fun w => [.ro (.rows 2 (w.map Sc.row))])), .ro (.rows 1 (st.map fun w => [.ro (.ints .i64 w)])), .ro (.rows 1 (tn.map fun w => [.ro (.rows 5 (w.map Fl.row))])), .ro (.ints .i64 ln)]]) 0 0] (.bool (decide (0 ≤ ga) && decide (ga ≤ 255))) := by
  refine pcall_body ty_ok Try.func70 rfl (by rfl) (by simp) ?_
  rw [Try.ntmps70]
  refine swp_seq fun K1 hK1 => ?_
  refine swp_region ty_ok ?_
  try simp (maxSteps := 1000000)
  repeat' (first | apply And.intro | intro _)
  any_goals (first | (refine hK1 _ ?_; clear hK1) | (first | omega | (simp only [IntKind.wrap_i64] at *; omega) | (simp_all; done) | (simp_all; omega)))
  refine swp_seq fun K2 hK2 => ?_
  refine swp_region ty_ok ?_
  try simp (maxSteps := 1000000)
  repeat' (first | apply And.intro | intro _)
  any_goals (first | (refine hK2 _ ?_; clear hK2) | (first | omega | (simp only [IntKind.wrap_i64] at *; omega) | (simp_all; done) | (simp_all; omega)))
  refine swp_ret ?_
  simp [fnPost, Try.results70, resP, tupOf]

theorem lck2_ok (ga s sh m : Int) (g : List Int) (se : List (List Sc)) (st : List (List Int)) (tn : List (List Fl)) (ln : List Int) (hl : LenOk g se st tn) : PCall Try.prog 71 [.rop (.rows 9 [[.int .i64 ga, .int .u8 s, .int .u8 sh, .int .i64 m, .ro (.ints .i64 g), .ro (.rows 1 (se.map fun w => [.ro (.rows 2 (w.map Sc.row))])), .ro (.rows 1 (st.map fun w => [.ro (.ints .i64 w)])), .ro (.rows 1 (tn.map fun w => [.ro (.rows 5 (w.map Fl.row))])), .ro (.ints .i64 ln)]]) 0 0] (.bool (secB m g se)) := by
  refine pcall_body ty_ok Try.func71 rfl (by rfl) (by simp) ?_
  rw [Try.ntmps71]
  refine swp_seq fun K1 hK1 => ?_
  refine swp_region ty_ok ?_
  try simp (maxSteps := 1000000)
  repeat' (first | apply And.intro | intro _)
  any_goals (first | (refine hK1 _ ?_; clear hK1) | (first | omega | (simp only [IntKind.wrap_i64] at *; omega) | (simp_all; done) | (simp_all; omega)))
  refine swp_seq fun K2 hK2 => ?_
  refine swp_region ty_ok ?_
  refine runs_cut 1 fun R3 hR3 => ?_
  try simp (maxSteps := 1000000) [List.take_succ_cons, List.take_zero, List.drop_succ_cons, List.drop_zero]
  repeat' (first | apply And.intro | intro _)
  any_goals (first | (refine hR3 _ ?_; clear hR3) | (first | omega | (simp only [IntKind.wrap_i64] at *; omega) | (simp_all; done) | (simp_all; omega)))
  refine runs_cut 1 fun R4 hR4 => ?_
  try simp (maxSteps := 1000000) [List.take_succ_cons, List.take_zero, List.drop_succ_cons, List.drop_zero]
  refine .inl ⟨_, lane_sections_ok ga s sh m g se st tn ln ⟨hl.1.1, hl.1.2.1⟩ hl.2.1, ?_⟩
  try simp (maxSteps := 1000000)
  repeat' (first | apply And.intro | intro _)
  any_goals (first | (refine hR4 _ ?_; clear hR4) | (first | omega | (simp only [IntKind.wrap_i64] at *; omega) | (simp_all; done) | (simp_all; omega)))
  try simp (maxSteps := 1000000) [List.take_succ_cons, List.take_zero, List.drop_succ_cons, List.drop_zero]
  repeat' (first | apply And.intro | intro _)
  any_goals (first | (refine hK2 _ ?_; clear hK2) | (first | omega | (simp only [IntKind.wrap_i64] at *; omega) | (simp_all; done) | (simp_all; omega)))
  refine swp_ret ?_
  simp [fnPost, Try.results71, resP, tupOf]

theorem lck3_ok (ga s sh m : Int) (g : List Int) (se : List (List Sc)) (st : List (List Int)) (tn : List (List Fl)) (ln : List Int) (hl : LenOk g se st tn) (hga : 0 ≤ ga ∧ ga ≤ 255) : PCall Try.prog 73 [.rop (.rows 9 [[.int .i64 ga, .int .u8 s, .int .u8 sh, .int .i64 m, .ro (.ints .i64 g), .ro (.rows 1 (se.map fun w => [.ro (.rows 2 (w.map Sc.row))])), .ro (.rows 1 (st.map fun w => [.ro (.ints .i64 w)])), .ro (.rows 1 (tn.map fun w => [.ro (.rows 5 (w.map Fl.row))])), .ro (.ints .i64 ln)]]) 0 0] (.bool (stpB ga m g se st)) := by
  refine pcall_body ty_ok Try.func73 rfl (by rfl) (by simp) ?_
  rw [Try.ntmps73]
  refine swp_seq fun K1 hK1 => ?_
  refine swp_region ty_ok ?_
  try simp (maxSteps := 1000000)
  repeat' (first | apply And.intro | intro _)
  any_goals (first | (refine hK1 _ ?_; clear hK1) | (first | omega | (simp only [IntKind.wrap_i64] at *; omega) | (simp_all; done) | (simp_all; omega)))
  refine swp_seq fun K2 hK2 => ?_
  refine swp_region ty_ok ?_
  refine runs_cut 1 fun R3 hR3 => ?_
  try simp (maxSteps := 1000000) [List.take_succ_cons, List.take_zero, List.drop_succ_cons, List.drop_zero]
  repeat' (first | apply And.intro | intro _)
  any_goals (first | (refine hR3 _ ?_; clear hR3) | (first | omega | (simp only [IntKind.wrap_i64] at *; omega) | (simp_all; done) | (simp_all; omega)))
  refine runs_cut 1 fun R4 hR4 => ?_
  try simp (maxSteps := 1000000) [List.take_succ_cons, List.take_zero, List.drop_succ_cons, List.drop_zero]
  refine .inl ⟨_, lane_steps_ok ga s sh m g se st tn ln ⟨hl.1.1, hl.1.2.2.1⟩ hl.2.1 hl.2.2.1 hga, ?_⟩
  try simp (maxSteps := 1000000)
  repeat' (first | apply And.intro | intro _)
  any_goals (first | (refine hR4 _ ?_; clear hR4) | (first | omega | (simp only [IntKind.wrap_i64] at *; omega) | (simp_all; done) | (simp_all; omega)))
  try simp (maxSteps := 1000000) [List.take_succ_cons, List.take_zero, List.drop_succ_cons, List.drop_zero]
  repeat' (first | apply And.intro | intro _)
  any_goals (first | (refine hK2 _ ?_; clear hK2) | (first | omega | (simp only [IntKind.wrap_i64] at *; omega) | (simp_all; done) | (simp_all; omega)))
  refine swp_ret ?_
  simp [fnPost, Try.results73, resP, tupOf]

theorem lck4_ok (ga s sh m : Int) (g : List Int) (se : List (List Sc)) (st : List (List Int)) (tn : List (List Fl)) (ln : List Int) (n : Int) (hl : LenOk g se st tn) : PCall Try.prog 75 [.rop (.rows 9 [[.int .i64 ga, .int .u8 s, .int .u8 sh, .int .i64 m, .ro (.ints .i64 g), .ro (.rows 1 (se.map fun w => [.ro (.rows 2 (w.map Sc.row))])), .ro (.rows 1 (st.map fun w => [.ro (.ints .i64 w)])), .ro (.rows 1 (tn.map fun w => [.ro (.rows 5 (w.map Fl.row))])), .ro (.ints .i64 ln)]]) 0 0, .rop (.rows 1 [[.int .i64 n]]) 0 0] (.bool (filA s n tn)) := by
  refine pcall_body ty_ok Try.func75 rfl (by rfl) (by simp) ?_
  rw [Try.ntmps75]
  refine swp_seq fun K1 hK1 => ?_
  refine swp_region ty_ok ?_
  try simp (maxSteps := 1000000)
  repeat' (first | apply And.intro | intro _)
  any_goals (first | (refine hK1 _ ?_; clear hK1) | (first | omega | (simp only [IntKind.wrap_i64] at *; omega) | (simp_all; done) | (simp_all; omega)))
  refine swp_seq fun K2 hK2 => ?_
  refine swp_region ty_ok ?_
  refine runs_cut 2 fun R3 hR3 => ?_
  try simp (maxSteps := 1000000) [List.take_succ_cons, List.take_zero, List.drop_succ_cons, List.drop_zero]
  repeat' (first | apply And.intro | intro _)
  any_goals (first | (refine hR3 _ ?_; clear hR3) | (first | omega | (simp only [IntKind.wrap_i64] at *; omega) | (simp_all; done) | (simp_all; omega)))
  refine runs_cut 1 fun R4 hR4 => ?_
  try simp (maxSteps := 1000000) [List.take_succ_cons, List.take_zero, List.drop_succ_cons, List.drop_zero]
  refine .inl ⟨_, lane_filters_ok ga s sh m g se st tn ln n hl.1.2.2.2 hl.2.2.2, ?_⟩
  try simp (maxSteps := 1000000)
  repeat' (first | apply And.intro | intro _)
  any_goals (first | (refine hR4 _ ?_; clear hR4) | (first | omega | (simp only [IntKind.wrap_i64] at *; omega) | (simp_all; done) | (simp_all; omega)))
  try simp (maxSteps := 1000000) [List.take_succ_cons, List.take_zero, List.drop_succ_cons, List.drop_zero]
  repeat' (first | apply And.intro | intro _)
  any_goals (first | (refine hK2 _ ?_; clear hK2) | (first | omega | (simp only [IntKind.wrap_i64] at *; omega) | (simp_all; done) | (simp_all; omega)))
  refine swp_ret ?_
  simp [fnPost, Try.results75, resP, tupOf]

theorem lck5_ok (rate : Int) (ga s sh m : Int) (g : List Int) (se : List (List Sc)) (st : List (List Int)) (tn : List (List Fl)) (ln : List Int) (hl : LenOk g se st tn) (hr : 0 ≤ rate ∧ rate ≤ 11) (hm11 : mayI 11 s sh m g = true) : PCall Try.prog 77 [.rop (.rows 1 [[.int .i64 rate]]) 0 0, .rop (.rows 9 [[.int .i64 ga, .int .u8 s, .int .u8 sh, .int .i64 m, .ro (.ints .i64 g), .ro (.rows 1 (se.map fun w => [.ro (.rows 2 (w.map Sc.row))])), .ro (.rows 1 (st.map fun w => [.ro (.ints .i64 w)])), .ro (.rows 1 (tn.map fun w => [.ro (.rows 5 (w.map Fl.row))])), .ro (.ints .i64 ln)]]) 0 0, .rop (.rows 1 [[.int .i64 (winI s sh m g)]]) 0 0] (.bool (linC rate s m g se ln)) := by
  refine pcall_body ty_ok Try.func77 rfl (by rfl) (by simp) ?_
  rw [Try.ntmps77]
  refine swp_seq fun K1 hK1 => ?_
  refine swp_region ty_ok ?_
  try simp (maxSteps := 1000000)
  repeat' (first | apply And.intro | intro _)
  any_goals (first | (refine hK1 _ ?_; clear hK1) | (first | omega | (simp only [IntKind.wrap_i64] at *; omega) | (simp_all; done) | (simp_all; omega)))
  refine swp_seq fun K2 hK2 => ?_
  refine swp_region ty_ok ?_
  refine runs_cut 3 fun R3 hR3 => ?_
  try simp (maxSteps := 1000000) [List.take_succ_cons, List.take_zero, List.drop_succ_cons, List.drop_zero]
  repeat' (first | apply And.intro | intro _)
  any_goals (first | (refine hR3 _ ?_; clear hR3) | (first | omega | (simp only [IntKind.wrap_i64] at *; omega) | (simp_all; done) | (simp_all; omega)))
  refine runs_cut 1 fun R4 hR4 => ?_
  try simp (maxSteps := 1000000) [List.take_succ_cons, List.take_zero, List.drop_succ_cons, List.drop_zero]
  refine .inl ⟨_, lines_any rate ga s sh m g se st tn ln hr hm11 hl.1.1 hl.2.1, ?_⟩
  try simp (maxSteps := 1000000)
  repeat' (first | apply And.intro | intro _)
  any_goals (first | (refine hR4 _ ?_; clear hR4) | (first | omega | (simp only [IntKind.wrap_i64] at *; omega) | (simp_all; done) | (simp_all; omega)))
  try simp (maxSteps := 1000000) [List.take_succ_cons, List.take_zero, List.drop_succ_cons, List.drop_zero]
  repeat' (first | apply And.intro | intro _)
  any_goals (first | (refine hK2 _ ?_; clear hK2) | (first | omega | (simp only [IntKind.wrap_i64] at *; omega) | (simp_all; done) | (simp_all; omega)))
  refine swp_ret ?_
  simp [fnPost, Try.results77, resP, tupOf]

set_option maxHeartbeats 8000000 in
theorem lane_Check_ok (rate : Int) (ga s sh m : Int) (g : List Int) (se : List (List Sc)) (st : List (List Int)) (tn : List (List Fl)) (ln : List Int) (hl : LenOk g se st tn) : PCall Try.prog 32 [.int .i64 rate, .agg [.int .i64 ga, .int .u8 s, .int .u8 sh, .int .i64 m, .ro (.ints .i64 g), .ro (.rows 1 (se.map fun w => [.ro (.rows 2 (w.map Sc.row))])), .ro (.rows 1 (st.map fun w => [.ro (.ints .i64 w)])), .ro (.rows 1 (tn.map fun w => [.ro (.rows 5 (w.map Fl.row))])), .ro (.ints .i64 ln)]] (.int .i64 (chL rate ga s sh m g se st tn ln)) := by
  have hk3 : IntKind.i64.wrap 3 = 3 := by decide
  have hk4 : IntKind.i64.wrap 4 = 4 := by decide
  have hk5 : IntKind.i64.wrap 5 = 5 := by decide
  refine pcall_body ty_ok Try.func32 rfl (by rfl) (by simp) ?_
  rw [Try.ntmps32]
  refine swp_seq fun K1 hK1 => ?_
  refine swp_region ty_ok ?_
  try simp (maxSteps := 1000000) [hk3, hk4, hk5]
  repeat' (first | apply And.intro | intro _)
  any_goals (first | (refine hK1 _ ?_; clear hK1) | (first | omega | (simp only [IntKind.wrap_i64] at *; omega) | (simp_all; done) | (simp_all; omega)))
  refine swp_seq fun K2 hK2 => ?_
  refine swp_seq fun K3 hK3 => ?_
  refine swp_region ty_ok ?_
  refine runs_cut 3 fun R4 hR4 => ?_
  try simp (maxSteps := 1000000) [hk3, hk4, hk5, List.take_succ_cons, List.take_zero, List.drop_succ_cons, List.drop_zero]
  repeat' (first | apply And.intro | intro _)
  any_goals (first | (refine hR4 _ ?_; clear hR4) | (first | omega | (simp only [IntKind.wrap_i64] at *; omega) | (simp_all; done) | (simp_all; omega)))
  refine runs_cut 1 fun R5 hR5 => ?_
  try simp (maxSteps := 1000000) [hk3, hk4, hk5, List.take_succ_cons, List.take_zero, List.drop_succ_cons, List.drop_zero]
  refine .inl ⟨_, info_Check_ok rate s sh m g (by have := hl.1.1; omega), ?_⟩
  try simp (maxSteps := 1000000) [hk3, hk4, hk5]
  repeat' (first | apply And.intro | intro _)
  any_goals (first | (refine hR5 _ ?_; clear hR5) | (first | omega | (simp only [IntKind.wrap_i64] at *; omega) | (simp_all; done) | (simp_all; omega)))
  try simp (maxSteps := 1000000) [hk3, hk4, hk5, List.take_succ_cons, List.take_zero, List.drop_succ_cons, List.drop_zero]
  repeat' (first | apply And.intro | intro _)
  any_goals (first | (refine hK3 _ ?_; clear hK3) | (first | omega | (simp only [IntKind.wrap_i64] at *; omega) | (simp_all; done) | (simp_all; omega)))
  refine swp_seq fun K6 hK6 => ?_
  refine swp_region ty_ok ?_
  try simp (maxSteps := 1000000) [hk3, hk4, hk5]
  repeat' (first | apply And.intro | intro _)
  any_goals (first | (refine hK6 _ ?_; clear hK6) | (first | omega | (simp only [IntKind.wrap_i64] at *; omega) | (simp_all; done) | (simp_all; omega)))
  refine swp_if fun C7 hC7 => ?_
  try simp (maxSteps := 1000000) [hk3, hk4, hk5]
  refine hC7 _ (fun hc7 => ?_) (fun hc7 => ?_)
  · clear hC7
    try simp at hc7
    refine swp_seq fun K8 hK8 => ?_
    refine swp_region ty_ok ?_
    try simp (maxSteps := 1000000) [hk3, hk4, hk5]
    repeat' (first | apply And.intro | intro _)
    any_goals (first | (refine hK8 _ ?_; clear hK8) | (first | omega | (simp only [IntKind.wrap_i64] at *; omega) | (simp_all; done) | (simp_all; omega)))
    refine swp_ret ?_
    simp [fnPost, Try.results32, resP, tupOf]
    rw [chL, if_neg (by assumption)]
  · clear hC7
    try simp at hc7
    refine swp_skip ?_
    simp only [thn, inBlk]
    refine hK2 _ ?_; clear hK2
    refine swp_seq fun K9 hK9 => ?_
    obtain ⟨hr, _, _, _, _, _, _, hm11⟩ := chI_zero (by assumption : chI rate s sh m g = 0)
    refine swp_region ty_ok ?_
    refine runs_cut 2 fun R10 hR10 => ?_
    try simp (maxSteps := 1000000) [hk3, hk4, hk5, List.take_succ_cons, List.take_zero, List.drop_succ_cons, List.drop_zero]
    repeat' (first | apply And.intro | intro _)
    any_goals (first | (refine hR10 _ ?_; clear hR10) | (first | omega | (simp only [IntKind.wrap_i64] at *; omega) | (simp_all; done) | (simp_all; omega)))
    refine runs_cut 1 fun R11 hR11 => ?_
    try simp (maxSteps := 1000000) [hk3, hk4, hk5, List.take_succ_cons, List.take_zero, List.drop_succ_cons, List.drop_zero]
    refine .inl ⟨_, info_Windows_ok s sh m g (by have := hl.1.1; omega), ?_⟩
    try simp (maxSteps := 1000000) [hk3, hk4, hk5]
    repeat' (first | apply And.intro | intro _)
    any_goals (first | (refine hR11 _ ?_; clear hR11) | (first | omega | (simp only [IntKind.wrap_i64] at *; omega) | (simp_all; done) | (simp_all; omega)))
    try simp (maxSteps := 1000000) [hk3, hk4, hk5, List.take_succ_cons, List.take_zero, List.drop_succ_cons, List.drop_zero]
    repeat' (first | apply And.intro | intro _)
    any_goals (first | (refine hK9 _ ?_; clear hK9) | (first | omega | (simp only [IntKind.wrap_i64] at *; omega) | (simp_all; done) | (simp_all; omega)))
    refine swp_seq fun K12 hK12 => ?_
    refine swp_seq fun K13 hK13 => ?_
    refine swp_frz [2, 3, 6] (ps := [.rop (.rows 1 [[.int .i64 rate]]) 0 0, .rop (.rows 9 [[.int .i64 ga, .int .u8 s, .int .u8 sh, .int .i64 m, .ro (.ints .i64 g), .ro (.rows 1 (se.map fun w => [.ro (.rows 2 (w.map Sc.row))])), .ro (.rows 1 (st.map fun w => [.ro (.ints .i64 w)])), .ro (.rows 1 (tn.map fun w => [.ro (.rows 5 (w.map Fl.row))])), .ro (.ints .i64 ln)]]) 0 0, .rop (.rows 1 [[.int .i64 (winI s sh m g)]]) 0 0]) (is := [0, 1, 2]) (by simp [getT, getH, frzA, frz, frz1, Cells.len, Cells.pur, pur1]) ?_
    simp only [onL, kills, List.map_cons, List.map_nil, List.zip_cons_cons, List.zip_nil_left, List.zip_nil_right, List.cons_append, List.nil_append]
    refine swp_region ty_ok ?_
    refine runs_cut 5 fun R14 hR14 => ?_
    try simp (maxSteps := 1000000) [hk3, hk4, hk5, List.take_succ_cons, List.take_zero, List.drop_succ_cons, List.drop_zero]
    repeat' (first | apply And.intro | intro _)
    any_goals (first | (refine hR14 _ ?_; clear hR14) | (first | omega | (simp only [IntKind.wrap_i64] at *; omega) | (simp_all; done) | (simp_all; omega)))
    refine runs_cut 1 fun R15 hR15 => ?_
    try simp (maxSteps := 1000000) [hk3, hk4, hk5, List.take_succ_cons, List.take_zero, List.drop_succ_cons, List.drop_zero]
    repeat' (first | apply And.intro | intro _)
    any_goals (first | (refine Or.inl (hR15 _ ?_); clear hR15) | (first | omega | (simp only [IntKind.wrap_i64] at *; omega) | (simp_all; done) | (simp_all; omega)))
    try simp (maxSteps := 1000000) [hk3, hk4, hk5, List.take_succ_cons, List.take_zero, List.drop_succ_cons, List.drop_zero]
    repeat' (first | apply And.intro | intro _)
    any_goals (first | (refine hK13 _ ?_; clear hK13) | (first | omega | (simp only [IntKind.wrap_i64] at *; omega) | (simp_all; done) | (simp_all; omega)))
    refine swp_block ?_
    refine swp_rounds 6 ?_
    refine srnd fun KU17 hU17 => ?_
    refine swp_seq fun K18 hK18 => ?_
    refine swp_region ty_ok ?_
    try simp (maxSteps := 1000000) [hk3, hk4, hk5]
    repeat' (first | apply And.intro | intro _)
    any_goals (first | (refine hK18 _ ?_; clear hK18) | (first | omega | (simp only [IntKind.wrap_i64] at *; omega) | (simp_all; done) | (simp_all; omega)))
    refine swp_seq fun K19 hK19 => ?_
    refine swp_if fun C20 hC20 => ?_
    try simp (maxSteps := 1000000) [hk3, hk4, hk5]
    refine hC20 _ (fun hc20 => ?_) (fun hc20 => ?_)
    · clear hC20
      try simp at hc20
      refine swp_skip ?_
      simp only [thn, inBlk]
      refine hK19 _ ?_; clear hK19
      refine swp_seq fun K21 hK21 => ?_
      refine swp_block ?_
      refine swp_seq fun K22 hK22 => ?_
      refine swp_region ty_ok ?_
      try simp (maxSteps := 1000000) [hk3, hk4, hk5]
      repeat' (first | apply And.intro | intro _)
      any_goals (first | (refine hK22 _ ?_; clear hK22) | (first | omega | (simp only [IntKind.wrap_i64] at *; omega) | (simp_all; done) | (simp_all; omega)))
      refine swp_seq fun K23 hK23 => ?_
      refine swp_region ty_ok ?_
      refine runs_cut 1 fun R24 hR24 => ?_
      try simp (maxSteps := 1000000) [hk3, hk4, hk5, List.take_succ_cons, List.take_zero, List.drop_succ_cons, List.drop_zero]
      repeat' (first | apply And.intro | intro _)
      any_goals (first | (refine hR24 _ ?_; clear hR24) | (first | omega | (simp only [IntKind.wrap_i64] at *; omega) | (simp_all; done) | (simp_all; omega)))
      refine runs_cut 1 fun R25 hR25 => ?_
      try simp (maxSteps := 1000000) [hk3, hk4, hk5, List.take_succ_cons, List.take_zero, List.drop_succ_cons, List.drop_zero]
      first | refine .inl ⟨_, lck1_ok ga s sh m g se st tn ln, ?_⟩ | refine .inl ⟨_, lck2_ok ga s sh m g se st tn ln hl, ?_⟩ | refine .inl ⟨_, lck3_ok ga s sh m g se st tn ln hl (by simp_all), ?_⟩ | refine .inl ⟨_, lck4_ok ga s sh m g se st tn ln (winI s sh m g) hl, ?_⟩ | refine .inl ⟨_, lck5_ok rate ga s sh m g se st tn ln hl hr hm11, ?_⟩
      try simp (maxSteps := 1000000) [hk3, hk4, hk5]
      repeat' (first | apply And.intro | intro _)
      any_goals (first | (refine hR25 _ ?_; clear hR25) | (first | omega | (simp only [IntKind.wrap_i64] at *; omega) | (simp_all; done) | (simp_all; omega)))
      try simp (maxSteps := 1000000) [hk3, hk4, hk5, List.take_succ_cons, List.take_zero, List.drop_succ_cons, List.drop_zero]
      repeat' (first | apply And.intro | intro _)
      any_goals (first | (refine hK23 _ ?_; clear hK23) | (first | omega | (simp only [IntKind.wrap_i64] at *; omega) | (simp_all; done) | (simp_all; omega)))
      refine swp_if fun C26 hC26 => ?_
      try simp (maxSteps := 1000000) [hk3, hk4, hk5]
      refine hC26 _ (fun hc26 => ?_) (fun hc26 => ?_)
      · clear hC26
        try simp at hc26
        refine swp_seq fun K27 hK27 => ?_
        refine swp_region ty_ok ?_
        try simp (maxSteps := 1000000) [hk3, hk4, hk5]
        repeat' (first | apply And.intro | intro _)
        any_goals (first | (refine hK27 _ ?_; clear hK27) | (first | omega | (simp only [IntKind.wrap_i64] at *; omega) | (simp_all; done) | (simp_all; omega)))
        refine swp_ret ?_
        simp [fnPost, Try.results32, resP, tupOf]
        have h0 := (by assumption : chI rate s sh m g = 0)
        rw [chL, if_pos h0, if_neg]
        intro h1
        simp_all
        try omega
      · clear hC26
        try simp at hc26
        refine swp_skip ?_
        simp only [thn, inBlk]
        refine hK21 _ ?_; clear hK21
        refine swp_region ty_ok ?_
        try simp (maxSteps := 1000000) [hk3, hk4, hk5]
        repeat' (first | apply And.intro | intro _)
        any_goals (first | (refine hU17 _ ?_; clear hU17) | (first | omega | (simp only [IntKind.wrap_i64] at *; omega) | (simp_all; done) | (simp_all; omega)))
        refine srnd fun KU28 hU28 => ?_
        refine swp_seq fun K29 hK29 => ?_
        refine swp_region ty_ok ?_
        try simp (maxSteps := 1000000) [hk3, hk4, hk5]
        repeat' (first | apply And.intro | intro _)
        any_goals (first | (refine hK29 _ ?_; clear hK29) | (first | omega | (simp only [IntKind.wrap_i64] at *; omega) | (simp_all; done) | (simp_all; omega)))
        refine swp_seq fun K30 hK30 => ?_
        refine swp_if fun C31 hC31 => ?_
        try simp (maxSteps := 1000000) [hk3, hk4, hk5]
        refine hC31 _ (fun hc31 => ?_) (fun hc31 => ?_)
        · clear hC31
          try simp at hc31
          refine swp_skip ?_
          simp only [thn, inBlk]
          refine hK30 _ ?_; clear hK30
          refine swp_seq fun K32 hK32 => ?_
          refine swp_block ?_
          refine swp_seq fun K33 hK33 => ?_
          refine swp_region ty_ok ?_
          try simp (maxSteps := 1000000) [hk3, hk4, hk5]
          repeat' (first | apply And.intro | intro _)
          any_goals (first | (refine hK33 _ ?_; clear hK33) | (first | omega | (simp only [IntKind.wrap_i64] at *; omega) | (simp_all; done) | (simp_all; omega)))
          refine swp_seq fun K34 hK34 => ?_
          refine swp_region ty_ok ?_
          refine runs_cut 1 fun R35 hR35 => ?_
          try simp (maxSteps := 1000000) [hk3, hk4, hk5, List.take_succ_cons, List.take_zero, List.drop_succ_cons, List.drop_zero]
          repeat' (first | apply And.intro | intro _)
          any_goals (first | (refine hR35 _ ?_; clear hR35) | (first | omega | (simp only [IntKind.wrap_i64] at *; omega) | (simp_all; done) | (simp_all; omega)))
          refine runs_cut 1 fun R36 hR36 => ?_
          try simp (maxSteps := 1000000) [hk3, hk4, hk5, List.take_succ_cons, List.take_zero, List.drop_succ_cons, List.drop_zero]
          first | refine .inl ⟨_, lck1_ok ga s sh m g se st tn ln, ?_⟩ | refine .inl ⟨_, lck2_ok ga s sh m g se st tn ln hl, ?_⟩ | refine .inl ⟨_, lck3_ok ga s sh m g se st tn ln hl (by simp_all), ?_⟩ | refine .inl ⟨_, lck4_ok ga s sh m g se st tn ln (winI s sh m g) hl, ?_⟩ | refine .inl ⟨_, lck5_ok rate ga s sh m g se st tn ln hl hr hm11, ?_⟩
          try simp (maxSteps := 1000000) [hk3, hk4, hk5]
          repeat' (first | apply And.intro | intro _)
          any_goals (first | (refine hR36 _ ?_; clear hR36) | (first | omega | (simp only [IntKind.wrap_i64] at *; omega) | (simp_all; done) | (simp_all; omega)))
          try simp (maxSteps := 1000000) [hk3, hk4, hk5, List.take_succ_cons, List.take_zero, List.drop_succ_cons, List.drop_zero]
          repeat' (first | apply And.intro | intro _)
          any_goals (first | (refine hK34 _ ?_; clear hK34) | (first | omega | (simp only [IntKind.wrap_i64] at *; omega) | (simp_all; done) | (simp_all; omega)))
          refine swp_if fun C37 hC37 => ?_
          try simp (maxSteps := 1000000) [hk3, hk4, hk5]
          refine hC37 _ (fun hc37 => ?_) (fun hc37 => ?_)
          · clear hC37
            try simp at hc37
            refine swp_seq fun K38 hK38 => ?_
            refine swp_region ty_ok ?_
            try simp (maxSteps := 1000000) [hk3, hk4, hk5]
            repeat' (first | apply And.intro | intro _)
            any_goals (first | (refine hK38 _ ?_; clear hK38) | (first | omega | (simp only [IntKind.wrap_i64] at *; omega) | (simp_all; done) | (simp_all; omega)))
            refine swp_ret ?_
            simp [fnPost, Try.results32, resP, tupOf]
            have h0 := (by assumption : chI rate s sh m g = 0)
            rw [chL, if_pos h0, if_neg]
            intro h1
            simp_all
            try omega
          · clear hC37
            try simp at hc37
            refine swp_skip ?_
            simp only [thn, inBlk]
            refine hK32 _ ?_; clear hK32
            refine swp_region ty_ok ?_
            try simp (maxSteps := 1000000) [hk3, hk4, hk5]
            repeat' (first | apply And.intro | intro _)
            any_goals (first | (refine hU28 _ ?_; clear hU28) | (first | omega | (simp only [IntKind.wrap_i64] at *; omega) | (simp_all; done) | (simp_all; omega)))
            refine srnd fun KU39 hU39 => ?_
            refine swp_seq fun K40 hK40 => ?_
            refine swp_region ty_ok ?_
            try simp (maxSteps := 1000000) [hk3, hk4, hk5]
            repeat' (first | apply And.intro | intro _)
            any_goals (first | (refine hK40 _ ?_; clear hK40) | (first | omega | (simp only [IntKind.wrap_i64] at *; omega) | (simp_all; done) | (simp_all; omega)))
            refine swp_seq fun K41 hK41 => ?_
            refine swp_if fun C42 hC42 => ?_
            try simp (maxSteps := 1000000) [hk3, hk4, hk5]
            refine hC42 _ (fun hc42 => ?_) (fun hc42 => ?_)
            · clear hC42
              try simp at hc42
              refine swp_skip ?_
              simp only [thn, inBlk]
              refine hK41 _ ?_; clear hK41
              refine swp_seq fun K43 hK43 => ?_
              refine swp_block ?_
              refine swp_seq fun K44 hK44 => ?_
              refine swp_region ty_ok ?_
              try simp (maxSteps := 1000000) [hk3, hk4, hk5]
              repeat' (first | apply And.intro | intro _)
              any_goals (first | (refine hK44 _ ?_; clear hK44) | (first | omega | (simp only [IntKind.wrap_i64] at *; omega) | (simp_all; done) | (simp_all; omega)))
              refine swp_seq fun K45 hK45 => ?_
              refine swp_region ty_ok ?_
              refine runs_cut 1 fun R46 hR46 => ?_
              try simp (maxSteps := 1000000) [hk3, hk4, hk5, List.take_succ_cons, List.take_zero, List.drop_succ_cons, List.drop_zero]
              repeat' (first | apply And.intro | intro _)
              any_goals (first | (refine hR46 _ ?_; clear hR46) | (first | omega | (simp only [IntKind.wrap_i64] at *; omega) | (simp_all; done) | (simp_all; omega)))
              refine runs_cut 1 fun R47 hR47 => ?_
              try simp (maxSteps := 1000000) [hk3, hk4, hk5, List.take_succ_cons, List.take_zero, List.drop_succ_cons, List.drop_zero]
              first | refine .inl ⟨_, lck1_ok ga s sh m g se st tn ln, ?_⟩ | refine .inl ⟨_, lck2_ok ga s sh m g se st tn ln hl, ?_⟩ | refine .inl ⟨_, lck3_ok ga s sh m g se st tn ln hl (by simp_all), ?_⟩ | refine .inl ⟨_, lck4_ok ga s sh m g se st tn ln (winI s sh m g) hl, ?_⟩ | refine .inl ⟨_, lck5_ok rate ga s sh m g se st tn ln hl hr hm11, ?_⟩
              try simp (maxSteps := 1000000) [hk3, hk4, hk5]
              repeat' (first | apply And.intro | intro _)
              any_goals (first | (refine hR47 _ ?_; clear hR47) | (first | omega | (simp only [IntKind.wrap_i64] at *; omega) | (simp_all; done) | (simp_all; omega)))
              try simp (maxSteps := 1000000) [hk3, hk4, hk5, List.take_succ_cons, List.take_zero, List.drop_succ_cons, List.drop_zero]
              repeat' (first | apply And.intro | intro _)
              any_goals (first | (refine hK45 _ ?_; clear hK45) | (first | omega | (simp only [IntKind.wrap_i64] at *; omega) | (simp_all; done) | (simp_all; omega)))
              refine swp_if fun C48 hC48 => ?_
              try simp (maxSteps := 1000000) [hk3, hk4, hk5]
              refine hC48 _ (fun hc48 => ?_) (fun hc48 => ?_)
              · clear hC48
                try simp at hc48
                refine swp_seq fun K49 hK49 => ?_
                refine swp_region ty_ok ?_
                try simp (maxSteps := 1000000) [hk3, hk4, hk5]
                repeat' (first | apply And.intro | intro _)
                any_goals (first | (refine hK49 _ ?_; clear hK49) | (first | omega | (simp only [IntKind.wrap_i64] at *; omega) | (simp_all; done) | (simp_all; omega)))
                refine swp_ret ?_
                simp [fnPost, Try.results32, resP, tupOf]
                have h0 := (by assumption : chI rate s sh m g = 0)
                rw [chL, if_pos h0, if_neg]
                intro h1
                simp_all
                try omega
              · clear hC48
                try simp at hc48
                refine swp_skip ?_
                simp only [thn, inBlk]
                refine hK43 _ ?_; clear hK43
                refine swp_region ty_ok ?_
                try simp (maxSteps := 1000000) [hk3, hk4, hk5]
                repeat' (first | apply And.intro | intro _)
                any_goals (first | (refine hU39 _ ?_; clear hU39) | (first | omega | (simp only [IntKind.wrap_i64] at *; omega) | (simp_all; done) | (simp_all; omega)))
                refine srnd fun KU50 hU50 => ?_
                refine swp_seq fun K51 hK51 => ?_
                refine swp_region ty_ok ?_
                try simp (maxSteps := 1000000) [hk3, hk4, hk5]
                repeat' (first | apply And.intro | intro _)
                any_goals (first | (refine hK51 _ ?_; clear hK51) | (first | omega | (simp only [IntKind.wrap_i64] at *; omega) | (simp_all; done) | (simp_all; omega)))
                refine swp_seq fun K52 hK52 => ?_
                refine swp_if fun C53 hC53 => ?_
                try simp (maxSteps := 1000000) [hk3, hk4, hk5]
                refine hC53 _ (fun hc53 => ?_) (fun hc53 => ?_)
                · clear hC53
                  try simp at hc53
                  refine swp_skip ?_
                  simp only [thn, inBlk]
                  refine hK52 _ ?_; clear hK52
                  refine swp_seq fun K54 hK54 => ?_
                  refine swp_block ?_
                  refine swp_seq fun K55 hK55 => ?_
                  refine swp_region ty_ok ?_
                  try simp (maxSteps := 1000000) [hk3, hk4, hk5]
                  repeat' (first | apply And.intro | intro _)
                  any_goals (first | (refine hK55 _ ?_; clear hK55) | (first | omega | (simp only [IntKind.wrap_i64] at *; omega) | (simp_all; done) | (simp_all; omega)))
                  refine swp_seq fun K56 hK56 => ?_
                  refine swp_region ty_ok ?_
                  refine runs_cut 1 fun R57 hR57 => ?_
                  try simp (maxSteps := 1000000) [hk3, hk4, hk5, List.take_succ_cons, List.take_zero, List.drop_succ_cons, List.drop_zero]
                  repeat' (first | apply And.intro | intro _)
                  any_goals (first | (refine hR57 _ ?_; clear hR57) | (first | omega | (simp only [IntKind.wrap_i64] at *; omega) | (simp_all; done) | (simp_all; omega)))
                  refine runs_cut 1 fun R58 hR58 => ?_
                  try simp (maxSteps := 1000000) [hk3, hk4, hk5, List.take_succ_cons, List.take_zero, List.drop_succ_cons, List.drop_zero]
                  first | refine .inl ⟨_, lck1_ok ga s sh m g se st tn ln, ?_⟩ | refine .inl ⟨_, lck2_ok ga s sh m g se st tn ln hl, ?_⟩ | refine .inl ⟨_, lck3_ok ga s sh m g se st tn ln hl (by simp_all), ?_⟩ | refine .inl ⟨_, lck4_ok ga s sh m g se st tn ln (winI s sh m g) hl, ?_⟩ | refine .inl ⟨_, lck5_ok rate ga s sh m g se st tn ln hl hr hm11, ?_⟩
                  try simp (maxSteps := 1000000) [hk3, hk4, hk5]
                  repeat' (first | apply And.intro | intro _)
                  any_goals (first | (refine hR58 _ ?_; clear hR58) | (first | omega | (simp only [IntKind.wrap_i64] at *; omega) | (simp_all; done) | (simp_all; omega)))
                  try simp (maxSteps := 1000000) [hk3, hk4, hk5, List.take_succ_cons, List.take_zero, List.drop_succ_cons, List.drop_zero]
                  repeat' (first | apply And.intro | intro _)
                  any_goals (first | (refine hK56 _ ?_; clear hK56) | (first | omega | (simp only [IntKind.wrap_i64] at *; omega) | (simp_all; done) | (simp_all; omega)))
                  refine swp_if fun C59 hC59 => ?_
                  try simp (maxSteps := 1000000) [hk3, hk4, hk5]
                  refine hC59 _ (fun hc59 => ?_) (fun hc59 => ?_)
                  · clear hC59
                    try simp at hc59
                    refine swp_seq fun K60 hK60 => ?_
                    refine swp_region ty_ok ?_
                    try simp (maxSteps := 1000000) [hk3, hk4, hk5]
                    repeat' (first | apply And.intro | intro _)
                    any_goals (first | (refine hK60 _ ?_; clear hK60) | (first | omega | (simp only [IntKind.wrap_i64] at *; omega) | (simp_all; done) | (simp_all; omega)))
                    refine swp_ret ?_
                    simp [fnPost, Try.results32, resP, tupOf]
                    have h0 := (by assumption : chI rate s sh m g = 0)
                    rw [chL, if_pos h0, if_neg]
                    intro h1
                    simp_all
                    try omega
                  · clear hC59
                    try simp at hc59
                    refine swp_skip ?_
                    simp only [thn, inBlk]
                    refine hK54 _ ?_; clear hK54
                    refine swp_region ty_ok ?_
                    try simp (maxSteps := 1000000) [hk3, hk4, hk5]
                    repeat' (first | apply And.intro | intro _)
                    any_goals (first | (refine hU50 _ ?_; clear hU50) | (first | omega | (simp only [IntKind.wrap_i64] at *; omega) | (simp_all; done) | (simp_all; omega)))
                    refine srnd fun KU61 hU61 => ?_
                    refine swp_seq fun K62 hK62 => ?_
                    refine swp_region ty_ok ?_
                    try simp (maxSteps := 1000000) [hk3, hk4, hk5]
                    repeat' (first | apply And.intro | intro _)
                    any_goals (first | (refine hK62 _ ?_; clear hK62) | (first | omega | (simp only [IntKind.wrap_i64] at *; omega) | (simp_all; done) | (simp_all; omega)))
                    refine swp_seq fun K63 hK63 => ?_
                    refine swp_if fun C64 hC64 => ?_
                    try simp (maxSteps := 1000000) [hk3, hk4, hk5]
                    refine hC64 _ (fun hc64 => ?_) (fun hc64 => ?_)
                    · clear hC64
                      try simp at hc64
                      refine swp_skip ?_
                      simp only [thn, inBlk]
                      refine hK63 _ ?_; clear hK63
                      refine swp_seq fun K65 hK65 => ?_
                      refine swp_block ?_
                      refine swp_seq fun K66 hK66 => ?_
                      refine swp_region ty_ok ?_
                      try simp (maxSteps := 1000000) [hk3, hk4, hk5]
                      repeat' (first | apply And.intro | intro _)
                      any_goals (first | (refine hK66 _ ?_; clear hK66) | (first | omega | (simp only [IntKind.wrap_i64] at *; omega) | (simp_all; done) | (simp_all; omega)))
                      refine swp_seq fun K67 hK67 => ?_
                      refine swp_region ty_ok ?_
                      refine runs_cut 1 fun R68 hR68 => ?_
                      try simp (maxSteps := 1000000) [hk3, hk4, hk5, List.take_succ_cons, List.take_zero, List.drop_succ_cons, List.drop_zero]
                      repeat' (first | apply And.intro | intro _)
                      any_goals (first | (refine hR68 _ ?_; clear hR68) | (first | omega | (simp only [IntKind.wrap_i64] at *; omega) | (simp_all; done) | (simp_all; omega)))
                      refine runs_cut 1 fun R69 hR69 => ?_
                      try simp (maxSteps := 1000000) [hk3, hk4, hk5, List.take_succ_cons, List.take_zero, List.drop_succ_cons, List.drop_zero]
                      first | refine .inl ⟨_, lck1_ok ga s sh m g se st tn ln, ?_⟩ | refine .inl ⟨_, lck2_ok ga s sh m g se st tn ln hl, ?_⟩ | refine .inl ⟨_, lck3_ok ga s sh m g se st tn ln hl (by simp_all), ?_⟩ | refine .inl ⟨_, lck4_ok ga s sh m g se st tn ln (winI s sh m g) hl, ?_⟩ | refine .inl ⟨_, lck5_ok rate ga s sh m g se st tn ln hl hr hm11, ?_⟩
                      try simp (maxSteps := 1000000) [hk3, hk4, hk5]
                      repeat' (first | apply And.intro | intro _)
                      any_goals (first | (refine hR69 _ ?_; clear hR69) | (first | omega | (simp only [IntKind.wrap_i64] at *; omega) | (simp_all; done) | (simp_all; omega)))
                      try simp (maxSteps := 1000000) [hk3, hk4, hk5, List.take_succ_cons, List.take_zero, List.drop_succ_cons, List.drop_zero]
                      repeat' (first | apply And.intro | intro _)
                      any_goals (first | (refine hK67 _ ?_; clear hK67) | (first | omega | (simp only [IntKind.wrap_i64] at *; omega) | (simp_all; done) | (simp_all; omega)))
                      refine swp_if fun C70 hC70 => ?_
                      try simp (maxSteps := 1000000) [hk3, hk4, hk5]
                      refine hC70 _ (fun hc70 => ?_) (fun hc70 => ?_)
                      · clear hC70
                        try simp at hc70
                        refine swp_seq fun K71 hK71 => ?_
                        refine swp_region ty_ok ?_
                        try simp (maxSteps := 1000000) [hk3, hk4, hk5]
                        repeat' (first | apply And.intro | intro _)
                        any_goals (first | (refine hK71 _ ?_; clear hK71) | (first | omega | (simp only [IntKind.wrap_i64] at *; omega) | (simp_all; done) | (simp_all; omega)))
                        refine swp_ret ?_
                        simp [fnPost, Try.results32, resP, tupOf]
                        have h0 := (by assumption : chI rate s sh m g = 0)
                        rw [chL, if_pos h0, if_neg]
                        intro h1
                        simp_all
                        try omega
                      · clear hC70
                        try simp at hc70
                        refine swp_skip ?_
                        simp only [thn, inBlk]
                        refine hK65 _ ?_; clear hK65
                        refine swp_region ty_ok ?_
                        try simp (maxSteps := 1000000) [hk3, hk4, hk5]
                        repeat' (first | apply And.intro | intro _)
                        any_goals (first | (refine hU61 _ ?_; clear hU61) | (first | omega | (simp only [IntKind.wrap_i64] at *; omega) | (simp_all; done) | (simp_all; omega)))
                        refine srnd fun KU72 hU72 => ?_
                        refine swp_seq fun K73 hK73 => ?_
                        refine swp_region ty_ok ?_
                        try simp (maxSteps := 1000000) [hk3, hk4, hk5]
                        repeat' (first | apply And.intro | intro _)
                        any_goals (first | (refine hK73 _ ?_; clear hK73) | (first | omega | (simp only [IntKind.wrap_i64] at *; omega) | (simp_all; done) | (simp_all; omega)))
                        refine swp_seq fun K74 hK74 => ?_
                        refine swp_if fun C75 hC75 => ?_
                        try simp (maxSteps := 1000000) [hk3, hk4, hk5]
                        refine hC75 _ (fun hc75 => ?_) (fun hc75 => ?_)
                        · exact absurd hc75 (by simp)
                        · clear hC75
                          try simp at hc75
                          refine swp_exit ?_
                          simp [thn, inBlk]
                          refine hK12 _ ?_; clear hK12
                          refine swp_seq fun K76 hK76 => ?_
                          refine swp_region ty_ok ?_
                          try simp (maxSteps := 1000000) [hk3, hk4, hk5]
                          repeat' (first | apply And.intro | intro _)
                          any_goals (first | (refine hK76 _ ?_; clear hK76) | (first | omega | (simp only [IntKind.wrap_i64] at *; omega) | (simp_all; done) | (simp_all; omega)))
                          refine swp_ret ?_
                          simp [fnPost, Try.results32, resP, tupOf]
                          have h0 := (by assumption : chI rate s sh m g = 0)
                          rw [chL, if_pos h0, if_pos]
                          simp_all
                    · exact absurd hc64 (by simp)
                · exact absurd hc53 (by simp)
            · exact absurd hc42 (by simp)
        · exact absurd hc31 (by simp)
    · exact absurd hc20 (by simp)

end Go.Proofs.Ytmkgfgdipkagbaa

