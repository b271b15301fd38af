import Derived.Test.YtmkgfgdipkagbaaWb
import Derived.Test.YtmkgfgdipkagbaaTyl
import Derived.Test.YtmkgfgdipkagbaaPvy
import Derived.Test.YtmkgfgdipkagbaaLband
import Derived.Test.YtmkgfgdipkagbaaLinfo
import Derived.Test.YtmkgfgdipkagbaaLinfo2
import Derived.Test.YtmkgfgdipkagbaaLbits
import Derived.Test.YtmkgfgdipkagbaaLtns
import Derived.Test.YtmkgfgdipkagbaaLtnp
import Derived.Test.YtmkgfgdipkagbaaLtnl
import Derived.Test.YtmkgfgdipkagbaaLlan
import Derived.Test.YtmkgfgdipkagbaaLlan2
import Derived.Test.YtmkgfgdipkagbaaLlan3
import Derived.Test.YtmkgfgdipkagbaaLlan4
import Derived.Test.YtmkgfgdipkagbaaLlan5
import Derived.Test.YtmkgfgdipkagbaaLlan6
import Derived.Test.YtmkgfgdipkagbaaLlan8
import Derived.Test.YtmkgfgdipkagbaaLlan10
namespace Go.Proofs.Ytmkgfgdipkagbaa
set_option linter.unusedVariables false
set_option linter.unusedSimpArgs false
set_option maxRecDepth 10000
open Go Go.Pv


open Go.RowKit
theorem fit_bad {l : List Int} {w : Int} {k : Nat} (hk : k < l.length) (h : outF w (l[k]?.getD default) = true) : fitB l w = false := by
  unfold fitB
  rw [any_at hk h]
  rfl
theorem fit_ok {l : List Int} {w : Int} {k : Nat} (hk : l.length ≤ k) (h : ∀ j < k, outF w (l[j]?.getD default) = false) : fitB l w = true := by
  unfold fitB
  rw [any_no hk h]
  rfl
theorem out4_y {n : Int} (h : n < -8 ∨ 8 ≤ n) : outF 4 n = true := by
  rw [← out4, Bool.or_eq_true, decide_eq_true_eq, decide_eq_true_eq]; omega
theorem out4_n {n : Int} (h : -8 ≤ n ∧ n < 8) : outF 4 n = false := by
  rw [← out4, decide_eq_false (by omega), decide_eq_false (by omega)]; rfl
theorem out3_y {n : Int} (h : n < -4 ∨ 4 ≤ n) : outF 3 n = true := by
  rw [← out3, Bool.or_eq_true, decide_eq_true_eq, decide_eq_true_eq]; omega
theorem out3_n {n : Int} (h : -4 ≤ n ∧ n < 4) : outF 3 n = false := by
  rw [← out3, decide_eq_false (by omega), decide_eq_false (by omega)]; rfl
theorem badF_y {s : Int} {w : List Fl} {f : Fl} (h : rightB s f = false ∨ ¬ f.fine = (w[0]?.getD default).fine) : badF s w f = true := by
  unfold badF
  rcases h with h | h
  · rw [h]; rfl
  · rw [Bool.or_eq_true]; right; simpa using h
theorem badF_n {s : Int} {w : List Fl} {f : Fl} (h : rightB s f = true ∧ f.fine = (w[0]?.getD default).fine) : badF s w f = false := by
  unfold badF
  rw [h.1, h.2]
  simp
theorem badW_big {s : Int} {w : List Fl} (h : sz3 s < (w.length : Int)) : badW s w = true := by
  unfold badW
  rw [decide_eq_true h, Bool.true_or]
theorem badW_one {s : Int} {w : List Fl} {i : Nat} (hi : i < w.length) (h : badF s w (w[i]?.getD default) = true) : badW s w = true := by
  unfold badW
  rw [any_at hi h, Bool.or_true]
theorem badW_no {s : Int} {w : List Fl} {i : Nat} (hs : (w.length : Int) ≤ sz3 s) (hi : w.length ≤ i) (h : ∀ j < i, badF s w (w[j]?.getD default) = false) : badW s w = false := by
  unfold badW
  rw [any_no hi h, decide_eq_false (by omega)]
  rfl
def wdN (s : Int) : Int := if s = 2 then 32 else 256
theorem okV_mem {O : List Int} {se : List (List Sc)} {m gi i v bk : Int} {b : Nat} (hb : bnd O i = b) (hm : (b : Int) < m) (hk : (bkG se gi (b : Nat)).1 = bk) (h1 : 1 ≤ bk ∧ bk ≤ 11) (hv : v ≤ gr bk ∧ -gr bk ≤ v) : okV O se m gi i v = true := by
  refine okV_y ?_
  rw [bkA_y hb hm, hk]
  refine ⟨h1, ?_⟩
  unfold fitsB
  rw [decide_eq_false (by omega), decide_eq_false (by omega)]
  rfl
theorem okV_out {O : List Int} {se : List (List Sc)} {m gi i v bk : Int} {b : Nat} (hb : bnd O i = b) (hm : (b : Int) < m) (hk : (bkG se gi (b : Nat)).1 = bk) (h1 : 1 ≤ bk ∧ bk ≤ 11) (hv : gr bk < v ∨ v < -gr bk) : okV O se m gi i v = false := by
  have hg := (gr_at (book := bk) (by omega)).2
  refine okV_n (by omega) ?_
  rw [bkA_y hb hm, hk]
  right
  unfold fitsB
  rw [Bool.not_eq_false', Bool.or_eq_true, decide_eq_true_eq, decide_eq_true_eq]
  exact hv
theorem okV_nz {O : List Int} {se : List (List Sc)} {m gi i v : Int} {b : Nat} (hb : bnd O i = b) (hk : (b : Int) < m → 0 < (bkG se gi (b : Nat)).1 → 12 ≤ (bkG se gi (b : Nat)).1) (hv : ¬ v = 0) : okV O se m gi i v = false := by
  by_cases hm : (b : Int) < m
  · refine okV_n hv ?_
    rw [bkA_y hb hm]
    left
    have := hk hm
    omega
  · exact okV_no0 hv (bkA_n hb (by omega))
theorem grp_lt {g : List Int} {w : Nat} (h : ∀ x ∈ g, 1 ≤ x) (h0 : 0 ≤ (w : Int)) (hw : (w : Int) < g.sum) : grp g (w : Nat) < g.length := by
  have : ∀ (g : List Int) (w : Int), 0 ≤ w → w < g.sum → grp g w < g.length := by
    intro g
    induction g with
    | nil => intro w h0 hw; simp at hw; omega
    | cons x r ih =>
      intro w h0 hw
      rw [List.sum_cons] at hw
      rw [grp, List.length_cons]
      split
      · have := ih (w - x) (by omega) (by omega)
        omega
      · omega
  exact this g w h0 hw
theorem gr_bd (book : Int) : 0 ≤ gr book ∧ gr book ≤ 8191 := by
  unfold gr
  by_cases h : book.toNat < 13
  · have : ∀ k : Fin 13, 0 ≤ grT[k.val]?.getD 0 ∧ grT[k.val]?.getD 0 ≤ 8191 := by decide
    exact this ⟨book.toNat, h⟩
  · rw [List.getElem?_eq_none (by show 13 ≤ _; omega)]
    exact ⟨Int.le_refl _, by decide⟩

attribute [local simp] runs gd step1 need evu un opnds opv ev cst cst1 cstL getT getH putT onL nxt argT cellsOf PV.one thn inBlk jmp fldP ldP ldC live Cells.len Cells.get Cells.w sug ldv bin eqF eq1 ops2 sh2 binv Tk.agg stC apC rdS apS mvL zp argsP idx fillP toInts chunks mkC ixS ixA oidx slP sl0 mxF bltn frzA frz frzL frz1 pur1 Cells.pur PV.scal scal1 runD rdO PV.ids id1 zids ety Eff.on cnd minb and1b ifmax ifmin mxv sugI strv w0 w1 w2 wm1
set_option maxHeartbeats 4000000 in
theorem mayF_ok (s : Int) (f : Fl) (hf : f.co.length ≤ 1000000) : PCall Try.prog 112 [.agg [.int .i64 f.len, .int .i64 f.order, .bool f.down, .bool f.fine, .ro (.ints .i64 f.co)], .bool (decide (s = 2))] (.bool (rightB s f)) := by
  have hn8 : IntKind.i64.wrap (-8) = -8 := by decide
  have hn4 : IntKind.i64.wrap (-4) = -4 := by decide
  refine pcall_body ty_ok Try.func112 rfl (by rfl) (by simp) ?_
  rw [Try.ntmps112]
  refine swp_seq fun K1 hK1 => ?_
  refine swp_region ty_ok ?_
  try simp (maxSteps := 1000000) [hn8, hn4]
  repeat' (first | apply And.intro | intro _)
  any_goals (first | (refine hK1 _ ?_; clear hK1) | (first | omega | (simp only [IntKind.wrap_i64] at *; omega) | (simp_all; done) | (simp_all; omega)))
  refine swp_seq fun K2 hK2 => ?_
  refine swp_region ty_ok ?_
  try simp (maxSteps := 1000000) [hn8, hn4]
  repeat' (first | apply And.intro | intro _)
  any_goals (first | (refine hK2 _ ?_; clear hK2) | (first | omega | (simp only [IntKind.wrap_i64] at *; omega) | (simp_all; done) | (simp_all; omega)))
  refine swp_seq fun K3 hK3 => ?_
  refine swp_region ty_ok ?_
  try simp (maxSteps := 1000000) [hn8, hn4]
  repeat' (first | apply And.intro | intro _)
  any_goals (first | (refine hK3 _ ?_; clear hK3) | (first | omega | (simp only [IntKind.wrap_i64] at *; omega) | (simp_all; done) | (simp_all; omega)))
  refine swp_seq fun K4 hK4 => ?_
  refine swp_seq fun K5 hK5 => ?_
  refine swp_region ty_ok ?_
  try simp (maxSteps := 1000000) [hn8, hn4]
  repeat' (first | apply And.intro | intro _)
  any_goals (first | (refine hK5 _ ?_; clear hK5) | (first | omega | (simp only [IntKind.wrap_i64] at *; omega) | (simp_all; done) | (simp_all; omega)))
  refine swp_if fun C6 hC6 => ?_
  try simp (maxSteps := 1000000) [hn8, hn4]
  refine hC6 _ (fun hc6 => ?_) (fun hc6 => ?_)
  · clear hC6
    try simp at hc6
    refine swp_seq fun K7 hK7 => ?_
    have hs : s = 2 := by assumption
    have ht : top1 s = 15 + 1 := if_pos hs
    have ho : sz4 s = 7 := if_pos hs
    refine swp_region ty_ok ?_
    try simp (maxSteps := 1000000) [hn8, hn4]
    repeat' (first | apply And.intro | intro _)
    any_goals (first | (refine hK7 _ ?_; clear hK7) | (first | omega | (simp only [IntKind.wrap_i64] at *; omega) | (simp_all; done) | (simp_all; omega)))
    refine swp_region ty_ok ?_
    try simp (maxSteps := 1000000) [hn8, hn4]
    repeat' (first | apply And.intro | intro _)
    any_goals (first | (refine hK4 _ ?_; clear hK4) | (first | omega | (simp only [IntKind.wrap_i64] at *; omega) | (simp_all; done) | (simp_all; omega)))
    refine swp_seq fun K8 hK8 => ?_
    refine swp_seq fun K9 hK9 => ?_
    try have hs : ¬ s = 2 := by assumption
    try have ht : top1 s = 63 + 1 := if_neg hs
    try have ho : sz4 s = 12 := if_neg hs
    refine swp_region ty_ok ?_
    refine runs_cut 9 fun R10 hR10 => ?_
    try simp (maxSteps := 1000000) [hn8, hn4, List.take_succ_cons, List.take_zero, List.drop_succ_cons, List.drop_zero]
    repeat' (first | apply And.intro | intro _)
    any_goals (first | (refine hR10 _ ?_; clear hR10) | (first | omega | (simp only [IntKind.wrap_i64] at *; omega) | (simp_all; done) | (simp_all; omega)))
    refine runs_cut 9 fun R11 hR11 => ?_
    try simp (maxSteps := 1000000) [hn8, hn4, List.take_succ_cons, List.take_zero, List.drop_succ_cons, List.drop_zero]
    repeat' (first | apply And.intro | intro _)
    any_goals (first | (refine hR11 _ ?_; clear hR11) | (first | omega | (simp only [IntKind.wrap_i64] at *; omega) | (simp_all; done) | (simp_all; omega)))
    refine runs_cut 9 fun R12 hR12 => ?_
    try simp (maxSteps := 1000000) [hn8, hn4, List.take_succ_cons, List.take_zero, List.drop_succ_cons, List.drop_zero]
    repeat' (first | apply And.intro | intro _)
    any_goals (first | (refine hR12 _ ?_; clear hR12) | (first | omega | (simp only [IntKind.wrap_i64] at *; omega) | (simp_all; done) | (simp_all; omega)))
    try simp (maxSteps := 1000000) [hn8, hn4, List.take_succ_cons, List.take_zero, List.drop_succ_cons, List.drop_zero]
    repeat' (first | apply And.intro | intro _)
    any_goals (first | (refine hK9 _ ?_; clear hK9) | (first | omega | (simp only [IntKind.wrap_i64] at *; omega) | (simp_all; done) | (simp_all; omega)))
    refine swp_if fun C13 hC13 => ?_
    try simp (maxSteps := 1000000) [hn8, hn4]
    refine hC13 _ (fun hc13 => ?_) (fun hc13 => ?_)
    · clear hC13
      try simp at hc13
      refine swp_seq fun K14 hK14 => ?_
      refine swp_region ty_ok ?_
      try simp (maxSteps := 1000000) [hn8, hn4]
      repeat' (first | apply And.intro | intro _)
      any_goals (first | (refine hK14 _ ?_; clear hK14) | (first | omega | (simp only [IntKind.wrap_i64] at *; omega) | (simp_all; done) | (simp_all; omega)))
      refine swp_ret ?_
      simp [fnPost, Try.results112, resP, tupOf]
      exact rgt_no ht ho hc13
    · clear hC13
      try simp at hc13
      refine swp_skip ?_
      simp only [thn, inBlk]
      refine hK8 _ ?_; clear hK8
      refine swp_seq fun K15 hK15 => ?_
      have hry := rgt_yes ht ho hc13
      refine swp_region ty_ok ?_
      try simp (maxSteps := 1000000) [hn8, hn4]
      repeat' (first | apply And.intro | intro _)
      any_goals (first | (refine hK15 _ ?_; clear hK15) | (first | omega | (simp only [IntKind.wrap_i64] at *; omega) | (simp_all; done) | (simp_all; omega)))
      refine swp_seq fun K16 hK16 => ?_
      refine swp_seq fun K17 hK17 => ?_
      refine swp_region ty_ok ?_
      try simp (maxSteps := 1000000) [hn8, hn4]
      repeat' (first | apply And.intro | intro _)
      any_goals (first | (refine hK17 _ ?_; clear hK17) | (first | omega | (simp only [IntKind.wrap_i64] at *; omega) | (simp_all; done) | (simp_all; omega)))
      refine swp_if fun C18 hC18 => ?_
      try simp (maxSteps := 1000000) [hn8, hn4]
      refine hC18 _ (fun hc18 => ?_) (fun hc18 => ?_)
      · clear hC18
        try simp at hc18
        refine swp_region ty_ok ?_
        try simp (maxSteps := 1000000) [hn8, hn4]
        repeat' (first | apply And.intro | intro _)
        any_goals (first | (refine hK16 _ ?_; clear hK16) | (first | omega | (simp only [IntKind.wrap_i64] at *; omega) | (simp_all; done) | (simp_all; omega)))
        refine swp_seq fun K19 hK19 => ?_
        refine swp_seq fun K20 hK20 => ?_
        refine swp_region ty_ok ?_
        try simp (maxSteps := 1000000) [hn8, hn4]
        repeat' (first | apply And.intro | intro _)
        any_goals (first | (refine hK20 _ ?_; clear hK20) | (first | omega | (simp only [IntKind.wrap_i64] at *; omega) | (simp_all; done) | (simp_all; omega)))
        refine swp_block ?_
        refine swp_loop 1 (fun m_ s_ => ∃ (k : Nat), (k ≤ f.co.length) ∧ (∀ j < k, outF 4 (f.co[j]?.getD default) = false) ∧ s_ = ⟨[(2, .ptr 0 0 0 1), (7, .int .i64 8), (8, .int .i64 (k : Nat))], [(0, some ⟨.rows 5 [[.int .i64 f.len, .int .i64 f.order, .bool f.down, .bool f.fine, .ro (.ints .i64 f.co)]], true, 35⟩)], 1⟩ ∧ m_ = f.co.length - k) _ ⟨[(2, .ptr 0 0 0 1), (7, .int .i64 8), (8, .int .i64 (0 : Nat))], [(0, some ⟨.rows 5 [[.int .i64 f.len, .int .i64 f.order, .bool f.down, .bool f.fine, .ro (.ints .i64 f.co)]], true, 35⟩)], 1⟩ ⟨by simp [getT, PV.lo, lo1], by simp [getH, Blk.lo, Cells.lo, lo1], rfl, by omega⟩ ⟨(0), by omega, by simp, rfl, rfl⟩ ?_
        rintro m_ s_ ⟨k, hL21_0, hL21_1, rfl, rfl⟩ KL21 hL21
        have hkw : IntKind.i64.wrap ((k : Int) + 1) = (((k + 1 : Nat)) : Int) := wnext (by omega)
        refine swp_seq fun K22 hK22 => ?_
        refine swp_seq fun K23 hK23 => ?_
        refine swp_region ty_ok ?_
        try simp (maxSteps := 1000000) [hn8, hn4]
        repeat' (first | apply And.intro | intro _)
        any_goals (first | (refine hK23 _ ?_; clear hK23) | (first | omega | (simp only [IntKind.wrap_i64] at *; omega) | (simp_all; done) | (simp_all; omega)))
        refine swp_if fun C24 hC24 => ?_
        try simp (maxSteps := 1000000) [hn8, hn4]
        refine hC24 _ (fun hc24 => ?_) (fun hc24 => ?_)
        · clear hC24
          try simp at hc24
          refine swp_skip ?_
          simp only [thn, inBlk]
          refine hK22 _ ?_; clear hK22
          refine swp_seq fun K25 hK25 => ?_
          refine swp_block ?_
          refine swp_seq fun K26 hK26 => ?_
          refine swp_region ty_ok ?_
          refine runs_cut 8 fun R27 hR27 => ?_
          try simp (maxSteps := 1000000) [hn8, hn4, List.take_succ_cons, List.take_zero, List.drop_succ_cons, List.drop_zero]
          repeat' (first | apply And.intro | intro _)
          any_goals (first | (refine hR27 _ ?_; clear hR27) | (first | omega | (simp only [IntKind.wrap_i64] at *; omega) | (simp_all; done) | (simp_all; omega)))
          try simp (maxSteps := 1000000) [hn8, hn4, List.take_succ_cons, List.take_zero, List.drop_succ_cons, List.drop_zero]
          repeat' (first | apply And.intro | intro _)
          any_goals (first | (refine hK26 _ ?_; clear hK26) | (first | omega | (simp only [IntKind.wrap_i64] at *; omega) | (simp_all; done) | (simp_all; omega)))
          refine swp_if fun C28 hC28 => ?_
          try simp (maxSteps := 1000000) [hn8, hn4]
          refine hC28 _ (fun hc28 => ?_) (fun hc28 => ?_)
          · clear hC28
            try simp at hc28
            refine swp_seq fun K29 hK29 => ?_
            refine swp_region ty_ok ?_
            try simp (maxSteps := 1000000) [hn8, hn4]
            repeat' (first | apply And.intro | intro _)
            any_goals (first | (refine hK29 _ ?_; clear hK29) | (first | omega | (simp only [IntKind.wrap_i64] at *; omega) | (simp_all; done) | (simp_all; omega)))
            refine swp_ret ?_
            simp [fnPost, Try.results112, resP, tupOf]
            rw [hry, show widB f.fine = 4 by rw [(by assumption : f.fine = true)]; rfl]
            exact fit_bad (k := k) (by omega) (out4_y hc28)
          · clear hC28
            try simp at hc28
            refine swp_skip ?_
            simp only [thn, inBlk]
            refine hK25 _ ?_; clear hK25
            refine swp_region ty_ok ?_
            try simp (maxSteps := 1000000) [hn8, hn4]
            repeat' apply And.intro
            any_goals (try omega)
            refine hL21 _ ⟨[(2, .ptr 0 0 0 1), (7, .int .i64 8), (8, .int .i64 ((k + 1) : Nat))], [(0, some ⟨.rows 5 [[.int .i64 f.len, .int .i64 f.order, .bool f.down, .bool f.fine, .ro (.ints .i64 f.co)]], true, 35⟩)], 1⟩ _ ?_ ⟨(k + 1), by omega, by (refine lt_step (by assumption) ?_; exact out4_n hc28), rfl, rfl⟩ ⟨by simp [getT, PV.lo, lo1, hkw], by simp [getH, Blk.lo, Cells.lo, lo1], rfl, by omega⟩
            omega
        · clear hC24
          try simp at hc24
          refine swp_exit ?_
          simp [thn, inBlk]
          refine hK19 _ ?_; clear hK19
          refine swp_seq fun K30 hK30 => ?_
          refine swp_region ty_ok ?_
          try simp (maxSteps := 1000000) [hn8, hn4]
          repeat' (first | apply And.intro | intro _)
          any_goals (first | (refine hK30 _ ?_; clear hK30) | (first | omega | (simp only [IntKind.wrap_i64] at *; omega) | (simp_all; done) | (simp_all; omega)))
          refine swp_ret ?_
          simp [fnPost, Try.results112, resP, tupOf]
          rw [hry, show widB f.fine = 4 by rw [(by assumption : f.fine = true)]; rfl]
          exact fit_ok (k := k) (by omega) (by assumption)
      · clear hC18
        try simp at hc18
        refine swp_skip ?_
        simp only [thn, inBlk]
        refine hK16 _ ?_; clear hK16
        refine swp_seq fun K31 hK31 => ?_
        refine swp_seq fun K32 hK32 => ?_
        refine swp_region ty_ok ?_
        try simp (maxSteps := 1000000) [hn8, hn4]
        repeat' (first | apply And.intro | intro _)
        any_goals (first | (refine hK32 _ ?_; clear hK32) | (first | omega | (simp only [IntKind.wrap_i64] at *; omega) | (simp_all; done) | (simp_all; omega)))
        refine swp_block ?_
        refine swp_loop 1 (fun m_ s_ => ∃ (k : Nat), (k ≤ f.co.length) ∧ (∀ j < k, outF 3 (f.co[j]?.getD default) = false) ∧ s_ = ⟨[(2, .ptr 0 0 0 1), (7, .int .i64 4), (8, .int .i64 (k : Nat))], [(0, some ⟨.rows 5 [[.int .i64 f.len, .int .i64 f.order, .bool f.down, .bool f.fine, .ro (.ints .i64 f.co)]], true, 35⟩)], 1⟩ ∧ m_ = f.co.length - k) _ ⟨[(2, .ptr 0 0 0 1), (7, .int .i64 4), (8, .int .i64 (0 : Nat))], [(0, some ⟨.rows 5 [[.int .i64 f.len, .int .i64 f.order, .bool f.down, .bool f.fine, .ro (.ints .i64 f.co)]], true, 35⟩)], 1⟩ ⟨by simp [getT, PV.lo, lo1], by simp [getH, Blk.lo, Cells.lo, lo1], rfl, by omega⟩ ⟨(0), by omega, by simp, rfl, rfl⟩ ?_
        rintro m_ s_ ⟨k, hL33_0, hL33_1, rfl, rfl⟩ KL33 hL33
        have hkw : IntKind.i64.wrap ((k : Int) + 1) = (((k + 1 : Nat)) : Int) := wnext (by omega)
        refine swp_seq fun K34 hK34 => ?_
        refine swp_seq fun K35 hK35 => ?_
        refine swp_region ty_ok ?_
        try simp (maxSteps := 1000000) [hn8, hn4]
        repeat' (first | apply And.intro | intro _)
        any_goals (first | (refine hK35 _ ?_; clear hK35) | (first | omega | (simp only [IntKind.wrap_i64] at *; omega) | (simp_all; done) | (simp_all; omega)))
        refine swp_if fun C36 hC36 => ?_
        try simp (maxSteps := 1000000) [hn8, hn4]
        refine hC36 _ (fun hc36 => ?_) (fun hc36 => ?_)
        · clear hC36
          try simp at hc36
          refine swp_skip ?_
          simp only [thn, inBlk]
          refine hK34 _ ?_; clear hK34
          refine swp_seq fun K37 hK37 => ?_
          refine swp_block ?_
          refine swp_seq fun K38 hK38 => ?_
          refine swp_region ty_ok ?_
          refine runs_cut 8 fun R39 hR39 => ?_
          try simp (maxSteps := 1000000) [hn8, hn4, List.take_succ_cons, List.take_zero, List.drop_succ_cons, List.drop_zero]
          repeat' (first | apply And.intro | intro _)
          any_goals (first | (refine hR39 _ ?_; clear hR39) | (first | omega | (simp only [IntKind.wrap_i64] at *; omega) | (simp_all; done) | (simp_all; omega)))
          try simp (maxSteps := 1000000) [hn8, hn4, List.take_succ_cons, List.take_zero, List.drop_succ_cons, List.drop_zero]
          repeat' (first | apply And.intro | intro _)
          any_goals (first | (refine hK38 _ ?_; clear hK38) | (first | omega | (simp only [IntKind.wrap_i64] at *; omega) | (simp_all; done) | (simp_all; omega)))
          refine swp_if fun C40 hC40 => ?_
          try simp (maxSteps := 1000000) [hn8, hn4]
          refine hC40 _ (fun hc40 => ?_) (fun hc40 => ?_)
          · clear hC40
            try simp at hc40
            refine swp_seq fun K41 hK41 => ?_
            refine swp_region ty_ok ?_
            try simp (maxSteps := 1000000) [hn8, hn4]
            repeat' (first | apply And.intro | intro _)
            any_goals (first | (refine hK41 _ ?_; clear hK41) | (first | omega | (simp only [IntKind.wrap_i64] at *; omega) | (simp_all; done) | (simp_all; omega)))
            refine swp_ret ?_
            simp [fnPost, Try.results112, resP, tupOf]
            rw [hry, show widB f.fine = 3 by rw [(by assumption : f.fine = false)]; rfl]
            exact fit_bad (k := k) (by omega) (out3_y hc40)
          · clear hC40
            try simp at hc40
            refine swp_skip ?_
            simp only [thn, inBlk]
            refine hK37 _ ?_; clear hK37
            refine swp_region ty_ok ?_
            try simp (maxSteps := 1000000) [hn8, hn4]
            repeat' apply And.intro
            any_goals (try omega)
            refine hL33 _ ⟨[(2, .ptr 0 0 0 1), (7, .int .i64 4), (8, .int .i64 ((k + 1) : Nat))], [(0, some ⟨.rows 5 [[.int .i64 f.len, .int .i64 f.order, .bool f.down, .bool f.fine, .ro (.ints .i64 f.co)]], true, 35⟩)], 1⟩ _ ?_ ⟨(k + 1), by omega, by (refine lt_step (by assumption) ?_; exact out3_n hc40), rfl, rfl⟩ ⟨by simp [getT, PV.lo, lo1, hkw], by simp [getH, Blk.lo, Cells.lo, lo1], rfl, by omega⟩
            omega
        · clear hC36
          try simp at hc36
          refine swp_exit ?_
          simp [thn, inBlk]
          refine hK31 _ ?_; clear hK31
          refine swp_seq fun K42 hK42 => ?_
          refine swp_region ty_ok ?_
          try simp (maxSteps := 1000000) [hn8, hn4]
          repeat' (first | apply And.intro | intro _)
          any_goals (first | (refine hK42 _ ?_; clear hK42) | (first | omega | (simp only [IntKind.wrap_i64] at *; omega) | (simp_all; done) | (simp_all; omega)))
          refine swp_ret ?_
          simp [fnPost, Try.results112, resP, tupOf]
          rw [hry, show widB f.fine = 3 by rw [(by assumption : f.fine = false)]; rfl]
          exact fit_ok (k := k) (by omega) (by assumption)
  · clear hC6
    try simp at hc6
    refine swp_skip ?_
    simp only [thn, inBlk]
    refine hK4 _ ?_; clear hK4
    refine swp_seq fun K43 hK43 => ?_
    refine swp_seq fun K44 hK44 => ?_
    try have hs : ¬ s = 2 := by assumption
    try have ht : top1 s = 63 + 1 := if_neg hs
    try have ho : sz4 s = 12 := if_neg hs
    refine swp_region ty_ok ?_
    refine runs_cut 9 fun R45 hR45 => ?_
    try simp (maxSteps := 1000000) [hn8, hn4, List.take_succ_cons, List.take_zero, List.drop_succ_cons, List.drop_zero]
    repeat' (first | apply And.intro | intro _)
    any_goals (first | (refine hR45 _ ?_; clear hR45) | (first | omega | (simp only [IntKind.wrap_i64] at *; omega) | (simp_all; done) | (simp_all; omega)))
    refine runs_cut 9 fun R46 hR46 => ?_
    try simp (maxSteps := 1000000) [hn8, hn4, List.take_succ_cons, List.take_zero, List.drop_succ_cons, List.drop_zero]
    repeat' (first | apply And.intro | intro _)
    any_goals (first | (refine hR46 _ ?_; clear hR46) | (first | omega | (simp only [IntKind.wrap_i64] at *; omega) | (simp_all; done) | (simp_all; omega)))
    refine runs_cut 9 fun R47 hR47 => ?_
    try simp (maxSteps := 1000000) [hn8, hn4, List.take_succ_cons, List.take_zero, List.drop_succ_cons, List.drop_zero]
    repeat' (first | apply And.intro | intro _)
    any_goals (first | (refine hR47 _ ?_; clear hR47) | (first | omega | (simp only [IntKind.wrap_i64] at *; omega) | (simp_all; done) | (simp_all; omega)))
    try simp (maxSteps := 1000000) [hn8, hn4, List.take_succ_cons, List.take_zero, List.drop_succ_cons, List.drop_zero]
    repeat' (first | apply And.intro | intro _)
    any_goals (first | (refine hK44 _ ?_; clear hK44) | (first | omega | (simp only [IntKind.wrap_i64] at *; omega) | (simp_all; done) | (simp_all; omega)))
    refine swp_if fun C48 hC48 => ?_
    try simp (maxSteps := 1000000) [hn8, hn4]
    refine hC48 _ (fun hc48 => ?_) (fun hc48 => ?_)
    · clear hC48
      try simp at hc48
      refine swp_seq fun K49 hK49 => ?_
      refine swp_region ty_ok ?_
      try simp (maxSteps := 1000000) [hn8, hn4]
      repeat' (first | apply And.intro | intro _)
      any_goals (first | (refine hK49 _ ?_; clear hK49) | (first | omega | (simp only [IntKind.wrap_i64] at *; omega) | (simp_all; done) | (simp_all; omega)))
      refine swp_ret ?_
      simp [fnPost, Try.results112, resP, tupOf]
      exact rgt_no ht ho hc48
    · clear hC48
      try simp at hc48
      refine swp_skip ?_
      simp only [thn, inBlk]
      refine hK43 _ ?_; clear hK43
      refine swp_seq fun K50 hK50 => ?_
      have hry := rgt_yes ht ho hc48
      refine swp_region ty_ok ?_
      try simp (maxSteps := 1000000) [hn8, hn4]
      repeat' (first | apply And.intro | intro _)
      any_goals (first | (refine hK50 _ ?_; clear hK50) | (first | omega | (simp only [IntKind.wrap_i64] at *; omega) | (simp_all; done) | (simp_all; omega)))
      refine swp_seq fun K51 hK51 => ?_
      refine swp_seq fun K52 hK52 => ?_
      refine swp_region ty_ok ?_
      try simp (maxSteps := 1000000) [hn8, hn4]
      repeat' (first | apply And.intro | intro _)
      any_goals (first | (refine hK52 _ ?_; clear hK52) | (first | omega | (simp only [IntKind.wrap_i64] at *; omega) | (simp_all; done) | (simp_all; omega)))
      refine swp_if fun C53 hC53 => ?_
      try simp (maxSteps := 1000000) [hn8, hn4]
      refine hC53 _ (fun hc53 => ?_) (fun hc53 => ?_)
      · clear hC53
        try simp at hc53
        refine swp_region ty_ok ?_
        try simp (maxSteps := 1000000) [hn8, hn4]
        repeat' (first | apply And.intro | intro _)
        any_goals (first | (refine hK51 _ ?_; clear hK51) | (first | omega | (simp only [IntKind.wrap_i64] at *; omega) | (simp_all; done) | (simp_all; omega)))
        refine swp_seq fun K54 hK54 => ?_
        refine swp_seq fun K55 hK55 => ?_
        refine swp_region ty_ok ?_
        try simp (maxSteps := 1000000) [hn8, hn4]
        repeat' (first | apply And.intro | intro _)
        any_goals (first | (refine hK55 _ ?_; clear hK55) | (first | omega | (simp only [IntKind.wrap_i64] at *; omega) | (simp_all; done) | (simp_all; omega)))
        refine swp_block ?_
        refine swp_loop 1 (fun m_ s_ => ∃ (k : Nat), (k ≤ f.co.length) ∧ (∀ j < k, outF 4 (f.co[j]?.getD default) = false) ∧ s_ = ⟨[(2, .ptr 0 0 0 1), (7, .int .i64 8), (8, .int .i64 (k : Nat))], [(0, some ⟨.rows 5 [[.int .i64 f.len, .int .i64 f.order, .bool f.down, .bool f.fine, .ro (.ints .i64 f.co)]], true, 35⟩)], 1⟩ ∧ m_ = f.co.length - k) _ ⟨[(2, .ptr 0 0 0 1), (7, .int .i64 8), (8, .int .i64 (0 : Nat))], [(0, some ⟨.rows 5 [[.int .i64 f.len, .int .i64 f.order, .bool f.down, .bool f.fine, .ro (.ints .i64 f.co)]], true, 35⟩)], 1⟩ ⟨by simp [getT, PV.lo, lo1], by simp [getH, Blk.lo, Cells.lo, lo1], rfl, by omega⟩ ⟨(0), by omega, by simp, rfl, rfl⟩ ?_
        rintro m_ s_ ⟨k, hL56_0, hL56_1, rfl, rfl⟩ KL56 hL56
        have hkw : IntKind.i64.wrap ((k : Int) + 1) = (((k + 1 : Nat)) : Int) := wnext (by omega)
        refine swp_seq fun K57 hK57 => ?_
        refine swp_seq fun K58 hK58 => ?_
        refine swp_region ty_ok ?_
        try simp (maxSteps := 1000000) [hn8, hn4]
        repeat' (first | apply And.intro | intro _)
        any_goals (first | (refine hK58 _ ?_; clear hK58) | (first | omega | (simp only [IntKind.wrap_i64] at *; omega) | (simp_all; done) | (simp_all; omega)))
        refine swp_if fun C59 hC59 => ?_
        try simp (maxSteps := 1000000) [hn8, hn4]
        refine hC59 _ (fun hc59 => ?_) (fun hc59 => ?_)
        · clear hC59
          try simp at hc59
          refine swp_skip ?_
          simp only [thn, inBlk]
          refine hK57 _ ?_; clear hK57
          refine swp_seq fun K60 hK60 => ?_
          refine swp_block ?_
          refine swp_seq fun K61 hK61 => ?_
          refine swp_region ty_ok ?_
          refine runs_cut 8 fun R62 hR62 => ?_
          try simp (maxSteps := 1000000) [hn8, hn4, List.take_succ_cons, List.take_zero, List.drop_succ_cons, List.drop_zero]
          repeat' (first | apply And.intro | intro _)
          any_goals (first | (refine hR62 _ ?_; clear hR62) | (first | omega | (simp only [IntKind.wrap_i64] at *; omega) | (simp_all; done) | (simp_all; omega)))
          try simp (maxSteps := 1000000) [hn8, hn4, List.take_succ_cons, List.take_zero, List.drop_succ_cons, List.drop_zero]
          repeat' (first | apply And.intro | intro _)
          any_goals (first | (refine hK61 _ ?_; clear hK61) | (first | omega | (simp only [IntKind.wrap_i64] at *; omega) | (simp_all; done) | (simp_all; omega)))
          refine swp_if fun C63 hC63 => ?_
          try simp (maxSteps := 1000000) [hn8, hn4]
          refine hC63 _ (fun hc63 => ?_) (fun hc63 => ?_)
          · clear hC63
            try simp at hc63
            refine swp_seq fun K64 hK64 => ?_
            refine swp_region ty_ok ?_
            try simp (maxSteps := 1000000) [hn8, hn4]
            repeat' (first | apply And.intro | intro _)
            any_goals (first | (refine hK64 _ ?_; clear hK64) | (first | omega | (simp only [IntKind.wrap_i64] at *; omega) | (simp_all; done) | (simp_all; omega)))
            refine swp_ret ?_
            simp [fnPost, Try.results112, resP, tupOf]
            rw [hry, show widB f.fine = 4 by rw [(by assumption : f.fine = true)]; rfl]
            exact fit_bad (k := k) (by omega) (out4_y hc63)
          · clear hC63
            try simp at hc63
            refine swp_skip ?_
            simp only [thn, inBlk]
            refine hK60 _ ?_; clear hK60
            refine swp_region ty_ok ?_
            try simp (maxSteps := 1000000) [hn8, hn4]
            repeat' apply And.intro
            any_goals (try omega)
            refine hL56 _ ⟨[(2, .ptr 0 0 0 1), (7, .int .i64 8), (8, .int .i64 ((k + 1) : Nat))], [(0, some ⟨.rows 5 [[.int .i64 f.len, .int .i64 f.order, .bool f.down, .bool f.fine, .ro (.ints .i64 f.co)]], true, 35⟩)], 1⟩ _ ?_ ⟨(k + 1), by omega, by (refine lt_step (by assumption) ?_; exact out4_n hc63), rfl, rfl⟩ ⟨by simp [getT, PV.lo, lo1, hkw], by simp [getH, Blk.lo, Cells.lo, lo1], rfl, by omega⟩
            omega
        · clear hC59
          try simp at hc59
          refine swp_exit ?_
          simp [thn, inBlk]
          refine hK54 _ ?_; clear hK54
          refine swp_seq fun K65 hK65 => ?_
          refine swp_region ty_ok ?_
          try simp (maxSteps := 1000000) [hn8, hn4]
          repeat' (first | apply And.intro | intro _)
          any_goals (first | (refine hK65 _ ?_; clear hK65) | (first | omega | (simp only [IntKind.wrap_i64] at *; omega) | (simp_all; done) | (simp_all; omega)))
          refine swp_ret ?_
          simp [fnPost, Try.results112, resP, tupOf]
          rw [hry, show widB f.fine = 4 by rw [(by assumption : f.fine = true)]; rfl]
          exact fit_ok (k := k) (by omega) (by assumption)
      · clear hC53
        try simp at hc53
        refine swp_skip ?_
        simp only [thn, inBlk]
        refine hK51 _ ?_; clear hK51
        refine swp_seq fun K66 hK66 => ?_
        refine swp_seq fun K67 hK67 => ?_
        refine swp_region ty_ok ?_
        try simp (maxSteps := 1000000) [hn8, hn4]
        repeat' (first | apply And.intro | intro _)
        any_goals (first | (refine hK67 _ ?_; clear hK67) | (first | omega | (simp only [IntKind.wrap_i64] at *; omega) | (simp_all; done) | (simp_all; omega)))
        refine swp_block ?_
        refine swp_loop 1 (fun m_ s_ => ∃ (k : Nat), (k ≤ f.co.length) ∧ (∀ j < k, outF 3 (f.co[j]?.getD default) = false) ∧ s_ = ⟨[(2, .ptr 0 0 0 1), (7, .int .i64 4), (8, .int .i64 (k : Nat))], [(0, some ⟨.rows 5 [[.int .i64 f.len, .int .i64 f.order, .bool f.down, .bool f.fine, .ro (.ints .i64 f.co)]], true, 35⟩)], 1⟩ ∧ m_ = f.co.length - k) _ ⟨[(2, .ptr 0 0 0 1), (7, .int .i64 4), (8, .int .i64 (0 : Nat))], [(0, some ⟨.rows 5 [[.int .i64 f.len, .int .i64 f.order, .bool f.down, .bool f.fine, .ro (.ints .i64 f.co)]], true, 35⟩)], 1⟩ ⟨by simp [getT, PV.lo, lo1], by simp [getH, Blk.lo, Cells.lo, lo1], rfl, by omega⟩ ⟨(0), by omega, by simp, rfl, rfl⟩ ?_
        rintro m_ s_ ⟨k, hL68_0, hL68_1, rfl, rfl⟩ KL68 hL68
        have hkw : IntKind.i64.wrap ((k : Int) + 1) = (((k + 1 : Nat)) : Int) := wnext (by omega)
        refine swp_seq fun K69 hK69 => ?_
        refine swp_seq fun K70 hK70 => ?_
        refine swp_region ty_ok ?_
        try simp (maxSteps := 1000000) [hn8, hn4]
        repeat' (first | apply And.intro | intro _)
        any_goals (first | (refine hK70 _ ?_; clear hK70) | (first | omega | (simp only [IntKind.wrap_i64] at *; omega) | (simp_all; done) | (simp_all; omega)))
        refine swp_if fun C71 hC71 => ?_
        try simp (maxSteps := 1000000) [hn8, hn4]
        refine hC71 _ (fun hc71 => ?_) (fun hc71 => ?_)
        · clear hC71
          try simp at hc71
          refine swp_skip ?_
          simp only [thn, inBlk]
          refine hK69 _ ?_; clear hK69
          refine swp_seq fun K72 hK72 => ?_
          refine swp_block ?_
          refine swp_seq fun K73 hK73 => ?_
          refine swp_region ty_ok ?_
          refine runs_cut 8 fun R74 hR74 => ?_
          try simp (maxSteps := 1000000) [hn8, hn4, List.take_succ_cons, List.take_zero, List.drop_succ_cons, List.drop_zero]
          repeat' (first | apply And.intro | intro _)
          any_goals (first | (refine hR74 _ ?_; clear hR74) | (first | omega | (simp only [IntKind.wrap_i64] at *; omega) | (simp_all; done) | (simp_all; omega)))
          try simp (maxSteps := 1000000) [hn8, hn4, List.take_succ_cons, List.take_zero, List.drop_succ_cons, List.drop_zero]
          repeat' (first | apply And.intro | intro _)
          any_goals (first | (refine hK73 _ ?_; clear hK73) | (first | omega | (simp only [IntKind.wrap_i64] at *; omega) | (simp_all; done) | (simp_all; omega)))
          refine swp_if fun C75 hC75 => ?_
          try simp (maxSteps := 1000000) [hn8, hn4]
          refine hC75 _ (fun hc75 => ?_) (fun hc75 => ?_)
          · clear hC75
            try simp at hc75
            refine swp_seq fun K76 hK76 => ?_
            refine swp_region ty_ok ?_
            try simp (maxSteps := 1000000) [hn8, hn4]
            repeat' (first | apply And.intro | intro _)
            any_goals (first | (refine hK76 _ ?_; clear hK76) | (first | omega | (simp only [IntKind.wrap_i64] at *; omega) | (simp_all; done) | (simp_all; omega)))
            refine swp_ret ?_
            simp [fnPost, Try.results112, resP, tupOf]
            rw [hry, show widB f.fine = 3 by rw [(by assumption : f.fine = false)]; rfl]
            exact fit_bad (k := k) (by omega) (out3_y hc75)
          · clear hC75
            try simp at hc75
            refine swp_skip ?_
            simp only [thn, inBlk]
            refine hK72 _ ?_; clear hK72
            refine swp_region ty_ok ?_
            try simp (maxSteps := 1000000) [hn8, hn4]
            repeat' apply And.intro
            any_goals (try omega)
            refine hL68 _ ⟨[(2, .ptr 0 0 0 1), (7, .int .i64 4), (8, .int .i64 ((k + 1) : Nat))], [(0, some ⟨.rows 5 [[.int .i64 f.len, .int .i64 f.order, .bool f.down, .bool f.fine, .ro (.ints .i64 f.co)]], true, 35⟩)], 1⟩ _ ?_ ⟨(k + 1), by omega, by (refine lt_step (by assumption) ?_; exact out3_n hc75), rfl, rfl⟩ ⟨by simp [getT, PV.lo, lo1, hkw], by simp [getH, Blk.lo, Cells.lo, lo1], rfl, by omega⟩
            omega
        · clear hC71
          try simp at hc71
          refine swp_exit ?_
          simp [thn, inBlk]
          refine hK66 _ ?_; clear hK66
          refine swp_seq fun K77 hK77 => ?_
          refine swp_region ty_ok ?_
          try simp (maxSteps := 1000000) [hn8, hn4]
          repeat' (first | apply And.intro | intro _)
          any_goals (first | (refine hK77 _ ?_; clear hK77) | (first | omega | (simp only [IntKind.wrap_i64] at *; omega) | (simp_all; done) | (simp_all; omega)))
          refine swp_ret ?_
          simp [fnPost, Try.results112, resP, tupOf]
          rw [hry, show widB f.fine = 3 by rw [(by assumption : f.fine = false)]; rfl]
          exact fit_ok (k := k) (by omega) (by assumption)

set_option maxHeartbeats 8000000 in
theorem mayT_ok (s sh m : Int) (g : List Int) (tn : List (List Fl)) (hg : g.length ≤ 1000) (hl : tn.length ≤ 1000) (hw : ∀ w ∈ tn, w.length ≤ 1000 ∧ ∀ f ∈ w, f.co.length ≤ 1000) : PCall Try.prog 103 [.agg [.int .u8 s, .int .u8 sh, .int .i64 m, .ro (.ints .i64 g)], .ro (.rows 1 (tn.map fun w => [PV.ro (.rows 5 (w.map Fl.row))]))] (.bool (filA s (maN s) tn)) := by
  refine pcall_body ty_ok Try.func103 rfl (by rfl) (by simp) ?_
  rw [Try.ntmps103]
  refine swp_seq fun K1 hK1 => ?_
  refine swp_region ty_ok ?_
  try simp (maxSteps := 1000000)
  repeat' (first | apply And.intro | intro _)
  any_goals (first | (refine hK1 _ ?_; clear hK1) | (first | omega | (simp only [IntKind.wrap_i64] at *; omega) | (simp_all; done) | (simp_all; omega)))
  refine swp_seq fun K2 hK2 => ?_
  refine swp_region ty_ok ?_
  try simp (maxSteps := 1000000)
  repeat' (first | apply And.intro | intro _)
  any_goals (first | (refine hK2 _ ?_; clear hK2) | (first | omega | (simp only [IntKind.wrap_i64] at *; omega) | (simp_all; done) | (simp_all; omega)))
  refine swp_seq fun K3 hK3 => ?_
  refine swp_region ty_ok ?_
  try simp (maxSteps := 1000000)
  repeat' (first | apply And.intro | intro _)
  any_goals (first | (refine hK3 _ ?_; clear hK3) | (first | omega | (simp only [IntKind.wrap_i64] at *; omega) | (simp_all; done) | (simp_all; omega)))
  refine swp_seq fun K4 hK4 => ?_
  refine swp_seq fun K5 hK5 => ?_
  refine swp_region ty_ok ?_
  try simp (maxSteps := 1000000)
  repeat' (first | apply And.intro | intro _)
  any_goals (first | (refine hK5 _ ?_; clear hK5) | (first | omega | (simp only [IntKind.wrap_i64] at *; omega) | (simp_all; done) | (simp_all; omega)))
  refine swp_if fun C6 hC6 => ?_
  try simp (maxSteps := 1000000)
  refine hC6 _ (fun hc6 => ?_) (fun hc6 => ?_)
  · clear hC6
    try simp at hc6
    have hs : s = 2 := by assumption
    have ho : sz3 s = 1 := if_pos hs
    refine swp_region ty_ok ?_
    try simp (maxSteps := 1000000)
    repeat' (first | apply And.intro | intro _)
    any_goals (first | (refine hK4 _ ?_; clear hK4) | (first | omega | (simp only [IntKind.wrap_i64] at *; omega) | (simp_all; done) | (simp_all; omega)))
    refine swp_seq fun K7 hK7 => ?_
    refine swp_seq fun K8 hK8 => ?_
    try have hs : ¬ s = 2 := by assumption
    try have ho : sz3 s = 3 := if_neg hs
    refine swp_region ty_ok ?_
    refine runs_cut 3 fun R9 hR9 => ?_
    try simp (maxSteps := 1000000) [List.take_succ_cons, List.take_zero, List.drop_succ_cons, List.drop_zero]
    repeat' (first | apply And.intro | intro _)
    any_goals (first | (refine hR9 _ ?_; clear hR9) | (first | omega | (simp only [IntKind.wrap_i64] at *; omega) | (simp_all; done) | (simp_all; omega)))
    refine runs_cut 1 fun R10 hR10 => ?_
    try simp (maxSteps := 1000000) [List.take_succ_cons, List.take_zero, List.drop_succ_cons, List.drop_zero]
    refine .inl ⟨_, reedpiperef10_Many_ok s sh m g (by omega), ?_⟩
    try simp (maxSteps := 1000000)
    repeat' (first | apply And.intro | intro _)
    any_goals (first | (refine hR10 _ ?_; clear hR10) | (first | omega | (simp only [IntKind.wrap_i64] at *; omega) | (simp_all; done) | (simp_all; omega)))
    try simp (maxSteps := 1000000) [List.take_succ_cons, List.take_zero, List.drop_succ_cons, List.drop_zero]
    repeat' (first | apply And.intro | intro _)
    any_goals (first | (refine hK8 _ ?_; clear hK8) | (first | omega | (simp only [IntKind.wrap_i64] at *; omega) | (simp_all; done) | (simp_all; omega)))
    refine swp_if fun C11 hC11 => ?_
    try simp (maxSteps := 1000000)
    refine hC11 _ (fun hc11 => ?_) (fun hc11 => ?_)
    · clear hC11
      try simp at hc11
      refine swp_seq fun K12 hK12 => ?_
      refine swp_region ty_ok ?_
      try simp (maxSteps := 1000000)
      repeat' (first | apply And.intro | intro _)
      any_goals (first | (refine hK12 _ ?_; clear hK12) | (first | omega | (simp only [IntKind.wrap_i64] at *; omega) | (simp_all; done) | (simp_all; omega)))
      refine swp_ret ?_
      simp [fnPost, Try.results103, resP, tupOf]
      rw [filA, decide_eq_false (by omega)]; rfl
    · clear hC11
      try simp at hc11
      refine swp_skip ?_
      simp only [thn, inBlk]
      refine hK7 _ ?_; clear hK7
      refine swp_seq fun K13 hK13 => ?_
      refine swp_seq fun K14 hK14 => ?_
      refine swp_region ty_ok ?_
      try simp (maxSteps := 1000000)
      repeat' (first | apply And.intro | intro _)
      any_goals (first | (refine hK14 _ ?_; clear hK14) | (first | omega | (simp only [IntKind.wrap_i64] at *; omega) | (simp_all; done) | (simp_all; omega)))
      refine swp_block ?_
      refine swp_loop 1 (fun m_ s_ => ∃ (k : Nat), (k ≤ tn.length) ∧ (∀ j < k, badW s (tn[j]?.getD []) = false) ∧ s_ = ⟨[(1, .ro (.rows 1 (tn.map fun w => [PV.ro (.rows 5 (w.map Fl.row))]))), (2, .ptr 0 0 0 1), (5, .bool (decide (s = 2))), (6, .int .i64 1), (7, .int .i64 (k : Nat))], [(0, some ⟨.rows 4 [[.int .u8 s, .int .u8 sh, .int .i64 m, .ro (.ints .i64 g)]], true, 24⟩)], 1⟩ ∧ m_ = tn.length - k) _ ⟨[(1, .ro (.rows 1 (tn.map fun w => [PV.ro (.rows 5 (w.map Fl.row))]))), (2, .ptr 0 0 0 1), (5, .bool (decide (s = 2))), (6, .int .i64 1), (7, .int .i64 (0 : Nat))], [(0, some ⟨.rows 4 [[.int .u8 s, .int .u8 sh, .int .i64 m, .ro (.ints .i64 g)]], true, 24⟩)], 1⟩ ⟨by simp [getT, PV.lo, lo1, hs], by simp [getH, Blk.lo, Cells.lo, lo1], rfl, by omega⟩ ⟨(0), by omega, by simp, rfl, rfl⟩ ?_
      rintro m_ s_ ⟨k, hL15_0, hL15_1, rfl, rfl⟩ KL15 hL15
      have hkw : IntKind.i64.wrap ((k : Int) + 1) = (((k + 1 : Nat)) : Int) := wnext (by omega)
      refine swp_seq fun K16 hK16 => ?_
      refine swp_seq fun K17 hK17 => ?_
      refine swp_region ty_ok ?_
      try simp (maxSteps := 1000000)
      repeat' (first | apply And.intro | intro _)
      any_goals (first | (refine hK17 _ ?_; clear hK17) | (first | omega | (simp only [IntKind.wrap_i64] at *; omega) | (simp_all; done) | (simp_all; omega)))
      refine swp_if fun C18 hC18 => ?_
      try simp (maxSteps := 1000000)
      refine hC18 _ (fun hc18 => ?_) (fun hc18 => ?_)
      · clear hC18
        try simp at hc18
        refine swp_skip ?_
        simp only [thn, inBlk]
        refine hK16 _ ?_; clear hK16
        refine swp_seq fun K19 hK19 => ?_
        refine swp_block ?_
        refine swp_seq fun K20 hK20 => ?_
        refine swp_seq fun K21 hK21 => ?_
        have hrow := w_at (l := tn) (k := k) (by omega)
        have hwm := hw _ (mem_at (w := tn) (j := k) (by omega))
        have hw1 : (tn[k]?.getD []).length ≤ 1000 := hwm.1
        refine swp_region ty_ok ?_
        try simp (maxSteps := 1000000) [hrow]
        repeat' (first | apply And.intro | intro _)
        any_goals (first | (refine hK21 _ ?_; clear hK21) | (first | omega | (simp only [IntKind.wrap_i64] at *; omega) | (simp_all; done) | (simp_all; omega)))
        refine swp_if fun C22 hC22 => ?_
        try simp (maxSteps := 1000000) [hrow]
        refine hC22 _ (fun hc22 => ?_) (fun hc22 => ?_)
        · clear hC22
          try simp at hc22
          refine swp_seq fun K23 hK23 => ?_
          refine swp_region ty_ok ?_
          try simp (maxSteps := 1000000)
          repeat' (first | apply And.intro | intro _)
          any_goals (first | (refine hK23 _ ?_; clear hK23) | (first | omega | (simp only [IntKind.wrap_i64] at *; omega) | (simp_all; done) | (simp_all; omega)))
          refine swp_ret ?_
          simp [fnPost, Try.results103, resP, tupOf]
          exact filA_bad (k := k) (by omega) (badW_big (by rw [ho]; exact hc22))
        · clear hC22
          try simp at hc22
          refine swp_skip ?_
          simp only [thn, inBlk]
          refine hK20 _ ?_; clear hK20
          refine swp_seq fun K24 hK24 => ?_
          refine swp_region ty_ok ?_
          try simp (maxSteps := 1000000)
          repeat' (first | apply And.intro | intro _)
          any_goals (first | (refine hK24 _ ?_; clear hK24) | (first | omega | (simp only [IntKind.wrap_i64] at *; omega) | (simp_all; done) | (simp_all; omega)))
          refine swp_block ?_
          refine swp_loop 1 (fun m_ s_ => ∃ (i : Nat), (i ≤ (tn[k]?.getD []).length) ∧ (∀ j < i, badF s (tn[k]?.getD []) ((tn[k]?.getD [])[j]?.getD default) = false) ∧ s_ = ⟨[(1, .ro (.rows 1 (tn.map fun w => [PV.ro (.rows 5 (w.map Fl.row))]))), (2, .ptr 0 0 0 1), (5, .bool (decide (s = 2))), (6, .int .i64 1), (7, .int .i64 (k : Nat)), (8, .int .i64 (i : Nat))], [(0, some ⟨.rows 4 [[.int .u8 s, .int .u8 sh, .int .i64 m, .ro (.ints .i64 g)]], true, 24⟩)], 1⟩ ∧ m_ = (tn[k]?.getD []).length - i) _ ⟨[(1, .ro (.rows 1 (tn.map fun w => [PV.ro (.rows 5 (w.map Fl.row))]))), (2, .ptr 0 0 0 1), (5, .bool (decide (s = 2))), (6, .int .i64 1), (7, .int .i64 (k : Nat)), (8, .int .i64 (0 : Nat))], [(0, some ⟨.rows 4 [[.int .u8 s, .int .u8 sh, .int .i64 m, .ro (.ints .i64 g)]], true, 24⟩)], 1⟩ ⟨by simp [getT, PV.lo, lo1, hs], by simp [getH, Blk.lo, Cells.lo, lo1], rfl, by omega⟩ ⟨(0), by omega, by simp, rfl, rfl⟩ ?_
          rintro m_ s_ ⟨i, hL25_0, hL25_1, rfl, rfl⟩ KL25 hL25
          have hiw : IntKind.i64.wrap ((i : Int) + 1) = (((i + 1 : Nat)) : Int) := wnext (by omega)
          refine swp_seq fun K26 hK26 => ?_
          refine swp_seq fun K27 hK27 => ?_
          refine swp_region ty_ok ?_
          try simp (maxSteps := 1000000) [hrow]
          repeat' (first | apply And.intro | intro _)
          any_goals (first | (refine hK27 _ ?_; clear hK27) | (first | omega | (simp only [IntKind.wrap_i64] at *; omega) | (simp_all; done) | (simp_all; omega)))
          refine swp_if fun C28 hC28 => ?_
          try simp (maxSteps := 1000000) [hrow]
          refine hC28 _ (fun hc28 => ?_) (fun hc28 => ?_)
          · clear hC28
            try simp at hc28
            refine swp_skip ?_
            simp only [thn, inBlk]
            refine hK26 _ ?_; clear hK26
            refine swp_seq fun K29 hK29 => ?_
            refine swp_block ?_
            refine swp_seq fun K30 hK30 => ?_
            have hri := row_at (ws := (tn[k]?.getD [])) (k := i) (by omega)
            have hr0 := row_at (ws := (tn[k]?.getD [])) (k := 0) (by omega)
            have hwi : ((tn[k]?.getD [])[i]?.getD default).co.length ≤ 1000 := hwm.2 _ (mem_at (w := (tn[k]?.getD [])) (j := i) (by omega))
            refine swp_draw ty_ok mixed (ms := [0, 0, 3, 7, 0, 31, 63, 0, 255, 511, 1023, 2047, 2047, 8191, 16383, 2047, 65535, 131071, 262143, 2047, 2047, 1574911, 3672063, 7866367, 16254975, 33032191, 67108863, 134217727]) (by kernel_rfl) ?_
            refine runD_cut 8 fun R31 hR31 => ?_
            try simp (maxSteps := 1000000) [hrow, hri, hr0, List.take_succ_cons, List.take_zero, List.drop_succ_cons, List.drop_zero]
            repeat' (first | apply And.intro | intro _)
            any_goals (first | (refine hR31 _ _ _ _ ?_; clear hR31) | (first | omega | (simp only [IntKind.wrap_i64] at *; omega) | (simp_all; done) | (simp_all; omega)))
            refine runD_cut 1 fun R32 hR32 => ?_
            try simp (maxSteps := 1000000) [hrow, hri, hr0, List.take_succ_cons, List.take_zero, List.drop_succ_cons, List.drop_zero]
            refine .inl ⟨_, mayF_ok s ((tn[k]?.getD [])[i]?.getD default) (by omega), ?_⟩
            try simp (maxSteps := 1000000) [hrow, hri, hr0]
            repeat' (first | apply And.intro | intro _)
            any_goals (first | (refine hR32 _ _ _ _ ?_; clear hR32) | (first | omega | (simp only [IntKind.wrap_i64] at *; omega) | (simp_all; done) | (simp_all; omega)))
            refine runD_cut 9 fun R33 hR33 => ?_
            try simp (maxSteps := 1000000) [hrow, hri, hr0, List.take_succ_cons, List.take_zero, List.drop_succ_cons, List.drop_zero]
            repeat' (first | apply And.intro | intro _)
            any_goals (first | (refine hR33 _ _ _ _ ?_; clear hR33) | (first | omega | (simp only [IntKind.wrap_i64] at *; omega) | (simp_all; done) | (simp_all; omega)))
            try simp (maxSteps := 1000000) [hrow, hri, hr0, List.take_succ_cons, List.take_zero, List.drop_succ_cons, List.drop_zero]
            repeat' (first | apply And.intro | intro _)
            any_goals (first | kernel_rfl | (refine hK30 _ ?_; clear hK30) | (first | omega | (simp only [IntKind.wrap_i64] at *; omega) | (simp_all; done) | (simp_all; omega)))
            refine swp_if fun C35 hC35 => ?_
            try simp (maxSteps := 1000000) [hrow, hri, hr0]
            refine hC35 _ (fun hc35 => ?_) (fun hc35 => ?_)
            · clear hC35
              try simp at hc35
              refine swp_seq fun K36 hK36 => ?_
              refine swp_region ty_ok ?_
              try simp (maxSteps := 1000000)
              repeat' (first | apply And.intro | intro _)
              any_goals (first | (refine hK36 _ ?_; clear hK36) | (first | omega | (simp only [IntKind.wrap_i64] at *; omega) | (simp_all; done) | (simp_all; omega)))
              refine swp_ret ?_
              simp [fnPost, Try.results103, resP, tupOf]
              exact filA_bad (k := k) (by omega) (badW_one (i := i) (by omega) (badF_y hc35))
            · clear hC35
              try simp at hc35
              refine swp_skip ?_
              simp only [thn, inBlk]
              refine hK29 _ ?_; clear hK29
              refine swp_region ty_ok ?_
              try simp (maxSteps := 1000000)
              repeat' apply And.intro
              any_goals (try omega)
              refine hL25 _ ⟨[(1, .ro (.rows 1 (tn.map fun w => [PV.ro (.rows 5 (w.map Fl.row))]))), (2, .ptr 0 0 0 1), (5, .bool (decide (s = 2))), (6, .int .i64 1), (7, .int .i64 (k : Nat)), (8, .int .i64 ((i + 1) : Nat))], [(0, some ⟨.rows 4 [[.int .u8 s, .int .u8 sh, .int .i64 m, .ro (.ints .i64 g)]], true, 24⟩)], 1⟩ _ ?_ ⟨(i + 1), by omega, by (refine lt_step (by assumption) (badF_n hc35)), rfl, rfl⟩ ⟨by simp [getT, PV.lo, lo1, hiw, hs], by simp [getH, Blk.lo, Cells.lo, lo1], rfl, by omega⟩
              omega
          · clear hC28
            try simp at hc28
            refine swp_exit ?_
            simp [thn, inBlk]
            refine hK19 _ ?_; clear hK19
            refine swp_region ty_ok ?_
            try simp (maxSteps := 1000000)
            repeat' apply And.intro
            any_goals (try omega)
            refine hL15 _ ⟨[(1, .ro (.rows 1 (tn.map fun w => [PV.ro (.rows 5 (w.map Fl.row))]))), (2, .ptr 0 0 0 1), (5, .bool (decide (s = 2))), (6, .int .i64 1), (7, .int .i64 ((k + 1) : Nat))], [(0, some ⟨.rows 4 [[.int .u8 s, .int .u8 sh, .int .i64 m, .ro (.ints .i64 g)]], true, 24⟩)], 1⟩ _ ?_ ⟨(k + 1), by omega, by (refine lt_step (by assumption) (badW_no (i := i) (by omega) (by omega) (by assumption))), rfl, rfl⟩ ⟨by simp [getT, PV.lo, lo1, hkw, hs], by simp [getH, Blk.lo, Cells.lo, lo1], rfl, by omega⟩
            omega
      · clear hC18
        try simp at hc18
        refine swp_exit ?_
        simp [thn, inBlk]
        refine hK13 _ ?_; clear hK13
        refine swp_seq fun K37 hK37 => ?_
        refine swp_region ty_ok ?_
        try simp (maxSteps := 1000000)
        repeat' (first | apply And.intro | intro _)
        any_goals (first | (refine hK37 _ ?_; clear hK37) | (first | omega | (simp only [IntKind.wrap_i64] at *; omega) | (simp_all; done) | (simp_all; omega)))
        refine swp_ret ?_
        simp [fnPost, Try.results103, resP, tupOf]
        exact filA_ok (k := k) (by omega) (by omega) (by assumption)
  · clear hC6
    try simp at hc6
    refine swp_skip ?_
    simp only [thn, inBlk]
    refine hK4 _ ?_; clear hK4
    refine swp_seq fun K38 hK38 => ?_
    refine swp_seq fun K39 hK39 => ?_
    try have hs : ¬ s = 2 := by assumption
    try have ho : sz3 s = 3 := if_neg hs
    refine swp_region ty_ok ?_
    refine runs_cut 3 fun R40 hR40 => ?_
    try simp (maxSteps := 1000000) [List.take_succ_cons, List.take_zero, List.drop_succ_cons, List.drop_zero]
    repeat' (first | apply And.intro | intro _)
    any_goals (first | (refine hR40 _ ?_; clear hR40) | (first | omega | (simp only [IntKind.wrap_i64] at *; omega) | (simp_all; done) | (simp_all; omega)))
    refine runs_cut 1 fun R41 hR41 => ?_
    try simp (maxSteps := 1000000) [List.take_succ_cons, List.take_zero, List.drop_succ_cons, List.drop_zero]
    refine .inl ⟨_, reedpiperef10_Many_ok s sh m g (by omega), ?_⟩
    try simp (maxSteps := 1000000)
    repeat' (first | apply And.intro | intro _)
    any_goals (first | (refine hR41 _ ?_; clear hR41) | (first | omega | (simp only [IntKind.wrap_i64] at *; omega) | (simp_all; done) | (simp_all; omega)))
    try simp (maxSteps := 1000000) [List.take_succ_cons, List.take_zero, List.drop_succ_cons, List.drop_zero]
    repeat' (first | apply And.intro | intro _)
    any_goals (first | (refine hK39 _ ?_; clear hK39) | (first | omega | (simp only [IntKind.wrap_i64] at *; omega) | (simp_all; done) | (simp_all; omega)))
    refine swp_if fun C42 hC42 => ?_
    try simp (maxSteps := 1000000)
    refine hC42 _ (fun hc42 => ?_) (fun hc42 => ?_)
    · clear hC42
      try simp at hc42
      refine swp_seq fun K43 hK43 => ?_
      refine swp_region ty_ok ?_
      try simp (maxSteps := 1000000)
      repeat' (first | apply And.intro | intro _)
      any_goals (first | (refine hK43 _ ?_; clear hK43) | (first | omega | (simp only [IntKind.wrap_i64] at *; omega) | (simp_all; done) | (simp_all; omega)))
      refine swp_ret ?_
      simp [fnPost, Try.results103, resP, tupOf]
      rw [filA, decide_eq_false (by omega)]; rfl
    · clear hC42
      try simp at hc42
      refine swp_skip ?_
      simp only [thn, inBlk]
      refine hK38 _ ?_; clear hK38
      refine swp_seq fun K44 hK44 => ?_
      refine swp_seq fun K45 hK45 => ?_
      refine swp_region ty_ok ?_
      try simp (maxSteps := 1000000)
      repeat' (first | apply And.intro | intro _)
      any_goals (first | (refine hK45 _ ?_; clear hK45) | (first | omega | (simp only [IntKind.wrap_i64] at *; omega) | (simp_all; done) | (simp_all; omega)))
      refine swp_block ?_
      refine swp_loop 1 (fun m_ s_ => ∃ (k : Nat), (k ≤ tn.length) ∧ (∀ j < k, badW s (tn[j]?.getD []) = false) ∧ s_ = ⟨[(1, .ro (.rows 1 (tn.map fun w => [PV.ro (.rows 5 (w.map Fl.row))]))), (2, .ptr 0 0 0 1), (5, .bool (decide (s = 2))), (6, .int .i64 3), (7, .int .i64 (k : Nat))], [(0, some ⟨.rows 4 [[.int .u8 s, .int .u8 sh, .int .i64 m, .ro (.ints .i64 g)]], true, 24⟩)], 1⟩ ∧ m_ = tn.length - k) _ ⟨[(1, .ro (.rows 1 (tn.map fun w => [PV.ro (.rows 5 (w.map Fl.row))]))), (2, .ptr 0 0 0 1), (5, .bool (decide (s = 2))), (6, .int .i64 3), (7, .int .i64 (0 : Nat))], [(0, some ⟨.rows 4 [[.int .u8 s, .int .u8 sh, .int .i64 m, .ro (.ints .i64 g)]], true, 24⟩)], 1⟩ ⟨by simp [getT, PV.lo, lo1, hs], by simp [getH, Blk.lo, Cells.lo, lo1], rfl, by omega⟩ ⟨(0), by omega, by simp, rfl, rfl⟩ ?_
      rintro m_ s_ ⟨k, hL46_0, hL46_1, rfl, rfl⟩ KL46 hL46
      have hkw : IntKind.i64.wrap ((k : Int) + 1) = (((k + 1 : Nat)) : Int) := wnext (by omega)
      refine swp_seq fun K47 hK47 => ?_
      refine swp_seq fun K48 hK48 => ?_
      refine swp_region ty_ok ?_
      try simp (maxSteps := 1000000)
      repeat' (first | apply And.intro | intro _)
      any_goals (first | (refine hK48 _ ?_; clear hK48) | (first | omega | (simp only [IntKind.wrap_i64] at *; omega) | (simp_all; done) | (simp_all; omega)))
      refine swp_if fun C49 hC49 => ?_
      try simp (maxSteps := 1000000)
      refine hC49 _ (fun hc49 => ?_) (fun hc49 => ?_)
      · clear hC49
        try simp at hc49
        refine swp_skip ?_
        simp only [thn, inBlk]
        refine hK47 _ ?_; clear hK47
        refine swp_seq fun K50 hK50 => ?_
        refine swp_block ?_
        refine swp_seq fun K51 hK51 => ?_
        refine swp_seq fun K52 hK52 => ?_
        have hrow := w_at (l := tn) (k := k) (by omega)
        have hwm := hw _ (mem_at (w := tn) (j := k) (by omega))
        have hw1 : (tn[k]?.getD []).length ≤ 1000 := hwm.1
        refine swp_region ty_ok ?_
        try simp (maxSteps := 1000000) [hrow]
        repeat' (first | apply And.intro | intro _)
        any_goals (first | (refine hK52 _ ?_; clear hK52) | (first | omega | (simp only [IntKind.wrap_i64] at *; omega) | (simp_all; done) | (simp_all; omega)))
        refine swp_if fun C53 hC53 => ?_
        try simp (maxSteps := 1000000) [hrow]
        refine hC53 _ (fun hc53 => ?_) (fun hc53 => ?_)
        · clear hC53
          try simp at hc53
          refine swp_seq fun K54 hK54 => ?_
          refine swp_region ty_ok ?_
          try simp (maxSteps := 1000000)
          repeat' (first | apply And.intro | intro _)
          any_goals (first | (refine hK54 _ ?_; clear hK54) | (first | omega | (simp only [IntKind.wrap_i64] at *; omega) | (simp_all; done) | (simp_all; omega)))
          refine swp_ret ?_
          simp [fnPost, Try.results103, resP, tupOf]
          exact filA_bad (k := k) (by omega) (badW_big (by rw [ho]; exact hc53))
        · clear hC53
          try simp at hc53
          refine swp_skip ?_
          simp only [thn, inBlk]
          refine hK51 _ ?_; clear hK51
          refine swp_seq fun K55 hK55 => ?_
          refine swp_region ty_ok ?_
          try simp (maxSteps := 1000000)
          repeat' (first | apply And.intro | intro _)
          any_goals (first | (refine hK55 _ ?_; clear hK55) | (first | omega | (simp only [IntKind.wrap_i64] at *; omega) | (simp_all; done) | (simp_all; omega)))
          refine swp_block ?_
          refine swp_loop 1 (fun m_ s_ => ∃ (i : Nat), (i ≤ (tn[k]?.getD []).length) ∧ (∀ j < i, badF s (tn[k]?.getD []) ((tn[k]?.getD [])[j]?.getD default) = false) ∧ s_ = ⟨[(1, .ro (.rows 1 (tn.map fun w => [PV.ro (.rows 5 (w.map Fl.row))]))), (2, .ptr 0 0 0 1), (5, .bool (decide (s = 2))), (6, .int .i64 3), (7, .int .i64 (k : Nat)), (8, .int .i64 (i : Nat))], [(0, some ⟨.rows 4 [[.int .u8 s, .int .u8 sh, .int .i64 m, .ro (.ints .i64 g)]], true, 24⟩)], 1⟩ ∧ m_ = (tn[k]?.getD []).length - i) _ ⟨[(1, .ro (.rows 1 (tn.map fun w => [PV.ro (.rows 5 (w.map Fl.row))]))), (2, .ptr 0 0 0 1), (5, .bool (decide (s = 2))), (6, .int .i64 3), (7, .int .i64 (k : Nat)), (8, .int .i64 (0 : Nat))], [(0, some ⟨.rows 4 [[.int .u8 s, .int .u8 sh, .int .i64 m, .ro (.ints .i64 g)]], true, 24⟩)], 1⟩ ⟨by simp [getT, PV.lo, lo1, hs], by simp [getH, Blk.lo, Cells.lo, lo1], rfl, by omega⟩ ⟨(0), by omega, by simp, rfl, rfl⟩ ?_
          rintro m_ s_ ⟨i, hL56_0, hL56_1, rfl, rfl⟩ KL56 hL56
          have hiw : IntKind.i64.wrap ((i : Int) + 1) = (((i + 1 : Nat)) : Int) := wnext (by omega)
          refine swp_seq fun K57 hK57 => ?_
          refine swp_seq fun K58 hK58 => ?_
          refine swp_region ty_ok ?_
          try simp (maxSteps := 1000000) [hrow]
          repeat' (first | apply And.intro | intro _)
          any_goals (first | (refine hK58 _ ?_; clear hK58) | (first | omega | (simp only [IntKind.wrap_i64] at *; omega) | (simp_all; done) | (simp_all; omega)))
          refine swp_if fun C59 hC59 => ?_
          try simp (maxSteps := 1000000) [hrow]
          refine hC59 _ (fun hc59 => ?_) (fun hc59 => ?_)
          · clear hC59
            try simp at hc59
            refine swp_skip ?_
            simp only [thn, inBlk]
            refine hK57 _ ?_; clear hK57
            refine swp_seq fun K60 hK60 => ?_
            refine swp_block ?_
            refine swp_seq fun K61 hK61 => ?_
            have hri := row_at (ws := (tn[k]?.getD [])) (k := i) (by omega)
            have hr0 := row_at (ws := (tn[k]?.getD [])) (k := 0) (by omega)
            have hwi : ((tn[k]?.getD [])[i]?.getD default).co.length ≤ 1000 := hwm.2 _ (mem_at (w := (tn[k]?.getD [])) (j := i) (by omega))
            refine swp_draw ty_ok mixed (ms := [0, 0, 3, 7, 0, 31, 63, 0, 255, 511, 1023, 2047, 2047, 8191, 16383, 2047, 65535, 131071, 262143, 2047, 2047, 1574911, 3672063, 7866367, 16254975, 33032191, 67108863, 134217727]) (by kernel_rfl) ?_
            refine runD_cut 8 fun R62 hR62 => ?_
            try simp (maxSteps := 1000000) [hrow, hri, hr0, List.take_succ_cons, List.take_zero, List.drop_succ_cons, List.drop_zero]
            repeat' (first | apply And.intro | intro _)
            any_goals (first | (refine hR62 _ _ _ _ ?_; clear hR62) | (first | omega | (simp only [IntKind.wrap_i64] at *; omega) | (simp_all; done) | (simp_all; omega)))
            refine runD_cut 1 fun R63 hR63 => ?_
            try simp (maxSteps := 1000000) [hrow, hri, hr0, List.take_succ_cons, List.take_zero, List.drop_succ_cons, List.drop_zero]
            refine .inl ⟨_, mayF_ok s ((tn[k]?.getD [])[i]?.getD default) (by omega), ?_⟩
            try simp (maxSteps := 1000000) [hrow, hri, hr0]
            repeat' (first | apply And.intro | intro _)
            any_goals (first | (refine hR63 _ _ _ _ ?_; clear hR63) | (first | omega | (simp only [IntKind.wrap_i64] at *; omega) | (simp_all; done) | (simp_all; omega)))
            refine runD_cut 9 fun R64 hR64 => ?_
            try simp (maxSteps := 1000000) [hrow, hri, hr0, List.take_succ_cons, List.take_zero, List.drop_succ_cons, List.drop_zero]
            repeat' (first | apply And.intro | intro _)
            any_goals (first | (refine hR64 _ _ _ _ ?_; clear hR64) | (first | omega | (simp only [IntKind.wrap_i64] at *; omega) | (simp_all; done) | (simp_all; omega)))
            try simp (maxSteps := 1000000) [hrow, hri, hr0, List.take_succ_cons, List.take_zero, List.drop_succ_cons, List.drop_zero]
            repeat' (first | apply And.intro | intro _)
            any_goals (first | kernel_rfl | (refine hK61 _ ?_; clear hK61) | (first | omega | (simp only [IntKind.wrap_i64] at *; omega) | (simp_all; done) | (simp_all; omega)))
            refine swp_if fun C66 hC66 => ?_
            try simp (maxSteps := 1000000) [hrow, hri, hr0]
            refine hC66 _ (fun hc66 => ?_) (fun hc66 => ?_)
            · clear hC66
              try simp at hc66
              refine swp_seq fun K67 hK67 => ?_
              refine swp_region ty_ok ?_
              try simp (maxSteps := 1000000)
              repeat' (first | apply And.intro | intro _)
              any_goals (first | (refine hK67 _ ?_; clear hK67) | (first | omega | (simp only [IntKind.wrap_i64] at *; omega) | (simp_all; done) | (simp_all; omega)))
              refine swp_ret ?_
              simp [fnPost, Try.results103, resP, tupOf]
              exact filA_bad (k := k) (by omega) (badW_one (i := i) (by omega) (badF_y hc66))
            · clear hC66
              try simp at hc66
              refine swp_skip ?_
              simp only [thn, inBlk]
              refine hK60 _ ?_; clear hK60
              refine swp_region ty_ok ?_
              try simp (maxSteps := 1000000)
              repeat' apply And.intro
              any_goals (try omega)
              refine hL56 _ ⟨[(1, .ro (.rows 1 (tn.map fun w => [PV.ro (.rows 5 (w.map Fl.row))]))), (2, .ptr 0 0 0 1), (5, .bool (decide (s = 2))), (6, .int .i64 3), (7, .int .i64 (k : Nat)), (8, .int .i64 ((i + 1) : Nat))], [(0, some ⟨.rows 4 [[.int .u8 s, .int .u8 sh, .int .i64 m, .ro (.ints .i64 g)]], true, 24⟩)], 1⟩ _ ?_ ⟨(i + 1), by omega, by (refine lt_step (by assumption) (badF_n hc66)), rfl, rfl⟩ ⟨by simp [getT, PV.lo, lo1, hiw, hs], by simp [getH, Blk.lo, Cells.lo, lo1], rfl, by omega⟩
              omega
          · clear hC59
            try simp at hc59
            refine swp_exit ?_
            simp [thn, inBlk]
            refine hK50 _ ?_; clear hK50
            refine swp_region ty_ok ?_
            try simp (maxSteps := 1000000)
            repeat' apply And.intro
            any_goals (try omega)
            refine hL46 _ ⟨[(1, .ro (.rows 1 (tn.map fun w => [PV.ro (.rows 5 (w.map Fl.row))]))), (2, .ptr 0 0 0 1), (5, .bool (decide (s = 2))), (6, .int .i64 3), (7, .int .i64 ((k + 1) : Nat))], [(0, some ⟨.rows 4 [[.int .u8 s, .int .u8 sh, .int .i64 m, .ro (.ints .i64 g)]], true, 24⟩)], 1⟩ _ ?_ ⟨(k + 1), by omega, by (refine lt_step (by assumption) (badW_no (i := i) (by omega) (by omega) (by assumption))), rfl, rfl⟩ ⟨by simp [getT, PV.lo, lo1, hkw, hs], by simp [getH, Blk.lo, Cells.lo, lo1], rfl, by omega⟩
            omega
      · clear hC49
        try simp at hc49
        refine swp_exit ?_
        simp [thn, inBlk]
        refine hK44 _ ?_; clear hK44
        refine swp_seq fun K68 hK68 => ?_
        refine swp_region ty_ok ?_
        try simp (maxSteps := 1000000)
        repeat' (first | apply And.intro | intro _)
        any_goals (first | (refine hK68 _ ?_; clear hK68) | (first | omega | (simp only [IntKind.wrap_i64] at *; omega) | (simp_all; done) | (simp_all; omega)))
        refine swp_ret ?_
        simp [fnPost, Try.results103, resP, tupOf]
        exact filA_ok (k := k) (by omega) (by omega) (by assumption)

theorem most_ok (book : Int) (h : 1 ≤ book ∧ book ≤ 11) : PCall Try.prog 115 [.int .i64 book] (.int .i64 (gr book)) := by
  refine pcall_body ty_ok Try.func115 rfl (by rfl) (by simp) ?_
  rw [Try.ntmps115]
  refine swp_seq fun K1 hK1 => ?_
  refine swp_region ty_ok ?_
  try simp (maxSteps := 1000000)
  repeat' (first | apply And.intro | intro _)
  any_goals (first | (refine hK1 _ ?_; clear hK1) | (first | omega | (simp only [IntKind.wrap_i64] at *; omega) | (simp_all; done) | (simp_all; omega)))
  refine swp_seq fun K2 hK2 => ?_
  refine swp_region ty_ok ?_
  refine runs_cut 1 fun R3 hR3 => ?_
  try simp (maxSteps := 1000000) [List.take_succ_cons, List.take_zero, List.drop_succ_cons, List.drop_zero]
  repeat' (first | apply And.intro | intro _)
  any_goals (first | (refine Or.inl (hR3 _ ?_); clear hR3) | (first | omega | (simp only [IntKind.wrap_i64] at *; omega) | (simp_all; done) | (simp_all; omega)))
  try simp (maxSteps := 1000000) [List.take_succ_cons, List.take_zero, List.drop_succ_cons, List.drop_zero]
  repeat' (first | apply And.intro | intro _)
  any_goals (first | (refine hK2 _ ?_; clear hK2) | (first | omega | (simp only [IntKind.wrap_i64] at *; omega) | (simp_all; done) | (simp_all; omega)))
  refine swp_ret ?_
  simp [fnPost, Try.results115, resP, tupOf]
  have hh : book = 1 ∨ book = 2 ∨ book = 3 ∨ book = 4 ∨ book = 5 ∨ book = 6 ∨ book = 7 ∨ book = 8 ∨ book = 9 ∨ book = 10 ∨ book = 11 := by omega
  rcases hh with rfl | rfl | rfl | rfl | rfl | rfl | rfl | rfl | rfl | rfl | rfl <;> decide

theorem wide_ok (s sh m : Int) (g : List Int) : PCall Try.prog 116 [.agg [.int .u8 s, .int .u8 sh, .int .i64 m, .ro (.ints .i64 g)]] (.int .i64 (wdN s)) := by
  refine pcall_body ty_ok Try.func116 rfl (by rfl) (by simp) ?_
  rw [Try.ntmps116]
  refine swp_seq fun K1 hK1 => ?_
  refine swp_region ty_ok ?_
  try simp (maxSteps := 1000000)
  repeat' (first | apply And.intro | intro _)
  any_goals (first | (refine hK1 _ ?_; clear hK1) | (first | omega | (simp only [IntKind.wrap_i64] at *; omega) | (simp_all; done) | (simp_all; omega)))
  refine swp_seq fun K2 hK2 => ?_
  refine swp_seq fun K3 hK3 => ?_
  refine swp_region ty_ok ?_
  try simp (maxSteps := 1000000)
  repeat' (first | apply And.intro | intro _)
  any_goals (first | (refine hK3 _ ?_; clear hK3) | (first | omega | (simp only [IntKind.wrap_i64] at *; omega) | (simp_all; done) | (simp_all; omega)))
  refine swp_if fun C4 hC4 => ?_
  try simp (maxSteps := 1000000)
  refine hC4 _ (fun hc4 => ?_) (fun hc4 => ?_)
  · clear hC4
    try simp at hc4
    refine swp_seq fun K5 hK5 => ?_
    refine swp_region ty_ok ?_
    try simp (maxSteps := 1000000)
    repeat' (first | apply And.intro | intro _)
    any_goals (first | (refine hK5 _ ?_; clear hK5) | (first | omega | (simp only [IntKind.wrap_i64] at *; omega) | (simp_all; done) | (simp_all; omega)))
    refine swp_ret ?_
    simp [fnPost, Try.results116, resP, tupOf]
    rw [wdN, if_pos (by assumption)]
  · clear hC4
    try simp at hc4
    refine swp_skip ?_
    simp only [thn, inBlk]
    refine hK2 _ ?_; clear hK2
    refine swp_seq fun K6 hK6 => ?_
    refine swp_region ty_ok ?_
    try simp (maxSteps := 1000000)
    repeat' (first | apply And.intro | intro _)
    any_goals (first | (refine hK6 _ ?_; clear hK6) | (first | omega | (simp only [IntKind.wrap_i64] at *; omega) | (simp_all; done) | (simp_all; omega)))
    refine swp_ret ?_
    simp [fnPost, Try.results116, resP, tupOf]
    rw [wdN, if_neg (by assumption)]

set_option maxHeartbeats 16000000 in
theorem mayL_s (rate : Int) (ga sh m : Int) (g : List Int) (se : List (List Sc)) (st : List (List Int)) (tn : List (List Fl)) (ln : List Int) (hr : 0 ≤ rate ∧ rate ≤ 11) (hm11 : mayI 11 2 sh m g = true) (hwn : winI 2 sh m g = 8) (hx : g.length ≤ 1000) (hg : se.length = g.length) (hs : ∀ w ∈ se, secL m w = true) (hm : 0 ≤ m ∧ m ≤ 40) : PCall Try.prog 104 [.int .i64 rate, .agg [.int .i64 ga, .int .u8 2, .int .u8 sh, .int .i64 m, .ro (.ints .i64 g), .ro (.rows 1 (se.map fun w => [.ro (.rows 2 (w.map Sc.row))])), .ro (.rows 1 (st.map fun w => [.ro (.ints .i64 w)])), .ro (.rows 1 (tn.map fun w => [.ro (.rows 5 (w.map Fl.row))])), .ro (.ints .i64 ln)]] (.bool (linB (offs rate true) se m g ln 8 32)) := by
  have hneg0 : IntKind.i64.wrap (-0) = 0 := by decide
  have hO := offs_fine hr true
  simp only [if_true] at hO
  obtain ⟨ho1, ho2⟩ := hO.len
  have hoz := hO.zero
  have hol := hO.last
  obtain ⟨hp1, hp2, hp3⟩ := may_pos hm11
  have hil := inL_len g 0 hp1
  refine pcall_body ty_ok Try.func104 rfl (by rfl) (by simp) ?_
  rw [Try.ntmps104]
  refine swp_seq fun K1 hK1 => ?_
  refine swp_region ty_ok ?_
  try simp (maxSteps := 1000000) [wdN, hneg0]
  repeat' (first | apply And.intro | intro _)
  any_goals (first | (refine hK1 _ ?_; clear hK1) | (first | omega | (simp only [IntKind.wrap_i64] at *; omega) | (simp_all; done) | (simp_all; omega)))
  refine swp_seq fun K2 hK2 => ?_
  refine swp_seq fun K3 hK3 => ?_
  refine swp_region ty_ok ?_
  try simp (maxSteps := 1000000) [wdN, hneg0]
  repeat' (first | apply And.intro | intro _)
  any_goals (first | (refine hK3 _ ?_; clear hK3) | (first | omega | (simp only [IntKind.wrap_i64] at *; omega) | (simp_all; done) | (simp_all; omega)))
  refine swp_if fun C4 hC4 => ?_
  try simp (maxSteps := 1000000) [wdN, hneg0]
  refine hC4 _ (fun hc4 => ?_) (fun hc4 => ?_)
  · clear hC4
    try simp at hc4
    refine swp_seq fun K5 hK5 => ?_
    refine swp_region ty_ok ?_
    try simp (maxSteps := 1000000) [wdN, hneg0]
    repeat' (first | apply And.intro | intro _)
    any_goals (first | (refine hK5 _ ?_; clear hK5) | (first | omega | (simp only [IntKind.wrap_i64] at *; omega) | (simp_all; done) | (simp_all; omega)))
    refine swp_ret ?_
    simp [fnPost, Try.results104, resP, tupOf]
    exact linB_len (by omega)
  · clear hC4
    try simp at hc4
    refine swp_skip ?_
    simp only [thn, inBlk]
    refine hK2 _ ?_; clear hK2
    refine swp_seq fun K6 hK6 => ?_
    refine swp_region ty_ok ?_
    refine runs_cut 5 fun R7 hR7 => ?_
    try simp (maxSteps := 1000000) [wdN, hneg0, List.take_succ_cons, List.take_zero, List.drop_succ_cons, List.drop_zero]
    repeat' (first | apply And.intro | intro _)
    any_goals (first | (refine hR7 _ ?_; clear hR7) | (first | omega | (simp only [IntKind.wrap_i64] at *; omega) | (simp_all; done) | (simp_all; omega)))
    refine runs_cut 1 fun R8 hR8 => ?_
    try simp (maxSteps := 1000000) [wdN, hneg0, List.take_succ_cons, List.take_zero, List.drop_succ_cons, List.drop_zero]
    refine .inl ⟨_, reedpiperef06_Offsets_ok rate true hr, ?_⟩
    try simp (maxSteps := 1000000) [wdN, hneg0]
    repeat' (first | apply And.intro | intro _)
    any_goals (first | (refine hR8 _ ?_; clear hR8) | (first | omega | (simp only [IntKind.wrap_i64] at *; omega) | (simp_all; done) | (simp_all; omega)))
    try simp (maxSteps := 1000000) [wdN, hneg0, List.take_succ_cons, List.take_zero, List.drop_succ_cons, List.drop_zero]
    repeat' (first | apply And.intro | intro _)
    any_goals (first | (refine hK6 _ ?_; clear hK6) | (first | omega | (simp only [IntKind.wrap_i64] at *; omega) | (simp_all; done) | (simp_all; omega)))
    refine swp_seq fun K9 hK9 => ?_
    refine swp_region ty_ok ?_
    refine runs_cut 2 fun R10 hR10 => ?_
    try simp (maxSteps := 1000000) [wdN, hneg0, List.take_succ_cons, List.take_zero, List.drop_succ_cons, List.drop_zero]
    repeat' (first | apply And.intro | intro _)
    any_goals (first | (refine hR10 _ ?_; clear hR10) | (first | omega | (simp only [IntKind.wrap_i64] at *; omega) | (simp_all; done) | (simp_all; omega)))
    refine runs_cut 1 fun R11 hR11 => ?_
    try simp (maxSteps := 1000000) [wdN, hneg0, List.take_succ_cons, List.take_zero, List.drop_succ_cons, List.drop_zero]
    refine .inl ⟨_, reedpiperef10_In_ok 2 sh m g hp1 (by omega), ?_⟩
    try simp (maxSteps := 1000000) [wdN, hneg0]
    repeat' (first | apply And.intro | intro _)
    any_goals (first | (refine hR11 _ ?_; clear hR11) | (first | omega | (simp only [IntKind.wrap_i64] at *; omega) | (simp_all; done) | (simp_all; omega)))
    try simp (maxSteps := 1000000) [wdN, hneg0, List.take_succ_cons, List.take_zero, List.drop_succ_cons, List.drop_zero]
    repeat' (first | apply And.intro | intro _)
    any_goals (first | (refine hK9 _ ?_; clear hK9) | (first | omega | (simp only [IntKind.wrap_i64] at *; omega) | (simp_all; done) | (simp_all; omega)))
    refine swp_seq fun K12 hK12 => ?_
    refine swp_seq fun K13 hK13 => ?_
    refine swp_region ty_ok ?_
    try simp (maxSteps := 1000000) [wdN, hneg0]
    repeat' (first | apply And.intro | intro _)
    any_goals (first | (refine hK13 _ ?_; clear hK13) | (first | omega | (simp only [IntKind.wrap_i64] at *; omega) | (simp_all; done) | (simp_all; omega)))
    refine swp_block ?_
    refine swp_loop 1 (fun m_ s_ => ∃ (w : Nat), (w ≤ 8) ∧ (∀ j < w, linW (offs rate true) se m g ln 32 j = true) ∧ s_ = ⟨[(3, .ptr 0 0 0 1), (5, .ro (.ints .i64 (offs rate true))), (6, .ro (.ints .i64 (inL 0 g))), (7, .int .i64 (w : Nat))], [(0, some ⟨.rows 9 [[.int .i64 ga, .int .u8 2, .int .u8 sh, .int .i64 m, .ro (.ints .i64 g), .ro (.rows 1 (se.map fun w => [.ro (.rows 2 (w.map Sc.row))])), .ro (.rows 1 (st.map fun w => [.ro (.ints .i64 w)])), .ro (.rows 1 (tn.map fun w => [.ro (.rows 5 (w.map Fl.row))])), .ro (.ints .i64 ln)]], true, 29⟩)], 1⟩ ∧ m_ = 8 - w) _ ⟨[(3, .ptr 0 0 0 1), (5, .ro (.ints .i64 (offs rate true))), (6, .ro (.ints .i64 (inL 0 g))), (7, .int .i64 (0 : Nat))], [(0, some ⟨.rows 9 [[.int .i64 ga, .int .u8 2, .int .u8 sh, .int .i64 m, .ro (.ints .i64 g), .ro (.rows 1 (se.map fun w => [.ro (.rows 2 (w.map Sc.row))])), .ro (.rows 1 (st.map fun w => [.ro (.ints .i64 w)])), .ro (.rows 1 (tn.map fun w => [.ro (.rows 5 (w.map Fl.row))])), .ro (.ints .i64 ln)]], true, 29⟩)], 1⟩ ⟨by simp [getT, PV.lo, lo1], by simp [getH, Blk.lo, Cells.lo, lo1], rfl, by omega⟩ ⟨(0), by omega, by simp, rfl, rfl⟩ ?_
    rintro m_ s_ ⟨w, hL14_0, hL14_1, rfl, rfl⟩ KL14 hL14
    have hww : IntKind.i64.wrap ((w : Int) + 1) = (((w + 1 : Nat)) : Int) := wnext (by omega)
    refine swp_seq fun K15 hK15 => ?_
    refine swp_seq fun K16 hK16 => ?_
    refine swp_region ty_ok ?_
    try simp (maxSteps := 1000000) [wdN, hneg0]
    repeat' (first | apply And.intro | intro _)
    any_goals (first | (refine hK16 _ ?_; clear hK16) | (first | omega | (simp only [IntKind.wrap_i64] at *; omega) | (simp_all; done) | (simp_all; omega)))
    refine swp_if fun C17 hC17 => ?_
    try simp (maxSteps := 1000000) [wdN, hneg0]
    refine hC17 _ (fun hc17 => ?_) (fun hc17 => ?_)
    · clear hC17
      try simp at hc17
      refine swp_skip ?_
      simp only [thn, inBlk]
      refine hK15 _ ?_; clear hK15
      refine swp_seq fun K18 hK18 => ?_
      refine swp_block ?_
      refine swp_seq fun K19 hK19 => ?_
      have hgi := inL_get g 0 (w : Int) hp1 (by omega) (by omega)
      simp only [Int.toNat_natCast, Nat.zero_add] at hgi
      have hgl : grp g (w : Nat) < g.length := grp_lt hp1 (by omega) (by omega)
      have hrowS := s_at (l := se) (k := grp g (w : Nat)) (by omega)
      have hmk : (se[(grp g (w : Nat))]?.getD []) ∈ se := mem_at (w := se) (by omega)
      obtain ⟨hb1, hb2, hb3⟩ := secL_true (hs _ hmk)
      have hbl := bkR_len hb1
      rw [hb2] at hbl
      refine swp_draw ty_ok mixed (ms := [0, 1, 0, 0, 12, 28, 63, 127, 255, 511]) (by kernel_rfl) ?_
      refine runD_cut 8 fun R20 hR20 => ?_
      try simp (maxSteps := 1000000) [wdN, hneg0, hgi, hrowS, List.take_succ_cons, List.take_zero, List.drop_succ_cons, List.drop_zero]
      repeat' (first | apply And.intro | intro _)
      any_goals (first | (refine hR20 _ _ _ _ ?_; clear hR20) | (first | omega | (simp only [IntKind.wrap_i64] at *; omega) | (simp_all; done) | (simp_all; omega)))
      refine runD_cut 1 fun R21 hR21 => ?_
      try simp (maxSteps := 1000000) [wdN, hneg0, hgi, hrowS, List.take_succ_cons, List.take_zero, List.drop_succ_cons, List.drop_zero]
      refine .inl ⟨_, books_ok (se[(grp g (w : Nat))]?.getD []) hb1 hb3, ?_⟩
      try simp (maxSteps := 1000000) [wdN, hneg0, hgi, hrowS]
      repeat' (first | apply And.intro | intro _)
      any_goals (first | (refine hR21 _ _ _ _ ?_; clear hR21) | (first | omega | (simp only [IntKind.wrap_i64] at *; omega) | (simp_all; done) | (simp_all; omega)))
      try simp (maxSteps := 1000000) [wdN, hneg0, hgi, hrowS, List.take_succ_cons, List.take_zero, List.drop_succ_cons, List.drop_zero]
      repeat' (first | apply And.intro | intro _)
      any_goals (first | kernel_rfl | (refine hK19 _ ?_; clear hK19) | (first | omega | (simp only [IntKind.wrap_i64] at *; omega) | (simp_all; done) | (simp_all; omega)))
      refine swp_seq fun K23 hK23 => ?_
      refine swp_region ty_ok ?_
      try simp (maxSteps := 1000000) [wdN, hneg0]
      repeat' (first | apply And.intro | intro _)
      any_goals (first | (refine hK23 _ ?_; clear hK23) | (first | omega | (simp only [IntKind.wrap_i64] at *; omega) | (simp_all; done) | (simp_all; omega)))
      refine swp_block ?_
      refine swp_loop 1 (fun m_ s_ => ∃ (b : Nat), (b + 1 ≤ (offs rate true).length) ∧ (∀ j : Nat, (j : Int) < (offs rate true)[b]?.getD 0 → okV (offs rate true) se m (grp g (w : Nat) : Nat) (j : Nat) (ln[w * 32 + j]?.getD 0) = true) ∧ s_ = ⟨[(3, .ptr 0 0 0 1), (5, .ro (.ints .i64 (offs rate true))), (6, .ro (.ints .i64 (inL 0 g))), (7, .int .i64 (w : Nat)), (8, .ro (.ints .i64 (bkR (se[(grp g (w : Nat))]?.getD [])))), (9, .int .i64 (b : Nat))], [(0, some ⟨.rows 9 [[.int .i64 ga, .int .u8 2, .int .u8 sh, .int .i64 m, .ro (.ints .i64 g), .ro (.rows 1 (se.map fun w => [.ro (.rows 2 (w.map Sc.row))])), .ro (.rows 1 (st.map fun w => [.ro (.ints .i64 w)])), .ro (.rows 1 (tn.map fun w => [.ro (.rows 5 (w.map Fl.row))])), .ro (.ints .i64 ln)]], true, 29⟩)], 1⟩ ∧ m_ = (offs rate true).length - b) _ ⟨[(3, .ptr 0 0 0 1), (5, .ro (.ints .i64 (offs rate true))), (6, .ro (.ints .i64 (inL 0 g))), (7, .int .i64 (w : Nat)), (8, .ro (.ints .i64 (bkR (se[(grp g (w : Nat))]?.getD [])))), (9, .int .i64 (0 : Nat))], [(0, some ⟨.rows 9 [[.int .i64 ga, .int .u8 2, .int .u8 sh, .int .i64 m, .ro (.ints .i64 g), .ro (.rows 1 (se.map fun w => [.ro (.rows 2 (w.map Sc.row))])), .ro (.rows 1 (st.map fun w => [.ro (.ints .i64 w)])), .ro (.rows 1 (tn.map fun w => [.ro (.rows 5 (w.map Fl.row))])), .ro (.ints .i64 ln)]], true, 29⟩)], 1⟩ ⟨by simp [getT, PV.lo, lo1], by simp [getH, Blk.lo, Cells.lo, lo1], rfl, by omega⟩ ⟨(0), by omega, by (intro j hj; rw [hoz] at hj; omega), rfl, rfl⟩ ?_
      rintro m_ s_ ⟨b, hL24_0, hL24_1, rfl, rfl⟩ KL24 hL24
      have hbw : IntKind.i64.wrap ((b : Int) + 1) = (((b + 1 : Nat)) : Int) := wnext (by omega)
      refine swp_seq fun K25 hK25 => ?_
      refine swp_seq fun K26 hK26 => ?_
      have hbw1 : IntKind.i64.wrap ((b : Int) + 1) = ((b + 1 : Nat) : Int) := wnext (by omega)
      refine swp_region ty_ok ?_
      try simp (maxSteps := 1000000) [wdN, hneg0, hbw1]
      repeat' (first | apply And.intro | intro _)
      any_goals (first | (refine hK26 _ ?_; clear hK26) | (first | omega | (simp only [IntKind.wrap_i64] at *; omega) | (simp_all; done) | (simp_all; omega)))
      refine swp_if fun C27 hC27 => ?_
      try simp (maxSteps := 1000000) [wdN, hneg0, hbw1]
      refine hC27 _ (fun hc27 => ?_) (fun hc27 => ?_)
      · clear hC27
        try simp at hc27
        refine swp_skip ?_
        simp only [thn, inBlk]
        refine hK25 _ ?_; clear hK25
        refine swp_seq fun K28 hK28 => ?_
        refine swp_block ?_
        refine swp_seq fun K29 hK29 => ?_
        refine swp_region ty_ok ?_
        try simp (maxSteps := 1000000) [wdN, hneg0]
        repeat' (first | apply And.intro | intro _)
        any_goals (first | (refine hK29 _ ?_; clear hK29) | (first | omega | (simp only [IntKind.wrap_i64] at *; omega) | (simp_all; done) | (simp_all; omega)))
        refine swp_seq fun K30 hK30 => ?_
        refine swp_seq fun K31 hK31 => ?_
        refine swp_region ty_ok ?_
        refine runs_cut 9 fun R32 hR32 => ?_
        try simp (maxSteps := 1000000) [wdN, hneg0, List.take_succ_cons, List.take_zero, List.drop_succ_cons, List.drop_zero]
        repeat' (first | apply And.intro | intro _)
        any_goals (first | (refine hR32 _ ?_; clear hR32) | (first | omega | (simp only [IntKind.wrap_i64] at *; omega) | (simp_all; done) | (simp_all; omega)))
        try simp (maxSteps := 1000000) [wdN, hneg0, List.take_succ_cons, List.take_zero, List.drop_succ_cons, List.drop_zero]
        repeat' (first | apply And.intro | intro _)
        any_goals (first | (refine hK31 _ ?_; clear hK31) | (first | omega | (simp only [IntKind.wrap_i64] at *; omega) | (simp_all; done) | (simp_all; omega)))
        refine swp_if fun C33 hC33 => ?_
        try simp (maxSteps := 1000000) [wdN, hneg0]
        refine hC33 _ (fun hc33 => ?_) (fun hc33 => ?_)
        · clear hC33
          try simp at hc33
          have hcc := hc33
          have hbk : (bkG se (grp g (w : Nat) : Nat) (b : Nat)).1 = ((bkR (se[(grp g (w : Nat))]?.getD []))[b]?.getD 0) := by rw [bkR_at hb1 (by omega)]; unfold bkG; rw [if_neg (by omega)]; simp
          refine swp_region ty_ok ?_
          refine runs_cut 4 fun R34 hR34 => ?_
          try simp (maxSteps := 1000000) [wdN, hneg0, List.take_succ_cons, List.take_zero, List.drop_succ_cons, List.drop_zero]
          repeat' (first | apply And.intro | intro _)
          any_goals (first | (refine hR34 _ ?_; clear hR34) | (first | omega | (simp only [IntKind.wrap_i64] at *; omega) | (simp_all; done) | (simp_all; omega)))
          refine runs_cut 1 fun R35 hR35 => ?_
          try simp (maxSteps := 1000000) [wdN, hneg0, List.take_succ_cons, List.take_zero, List.drop_succ_cons, List.drop_zero]
          refine .inl ⟨_, most_ok ((bkR (se[(grp g (w : Nat))]?.getD []))[b]?.getD 0) (by omega), ?_⟩
          try simp (maxSteps := 1000000) [wdN, hneg0]
          repeat' (first | apply And.intro | intro _)
          any_goals (first | (refine hR35 _ ?_; clear hR35) | (first | omega | (simp only [IntKind.wrap_i64] at *; omega) | (simp_all; done) | (simp_all; omega)))
          try simp (maxSteps := 1000000) [wdN, hneg0, List.take_succ_cons, List.take_zero, List.drop_succ_cons, List.drop_zero]
          repeat' (first | apply And.intro | intro _)
          any_goals (first | (refine hK30 _ ?_; clear hK30) | (first | omega | (simp only [IntKind.wrap_i64] at *; omega) | (simp_all; done) | (simp_all; omega)))
          refine swp_seq fun K36 hK36 => ?_
          have hob : ((((offs rate true)[b]?.getD 0).toNat : Nat) : Int) = (offs rate true)[b]?.getD 0 := by have := hO.mono (b := b) (by omega) 0 (by omega); omega
          try have hcc2 := hc33
          have hbkx : (b : Int) < m → (bkG se (grp g (w : Nat) : Nat) (b : Nat)).1 = ((bkR (se[(grp g (w : Nat))]?.getD []))[b]?.getD 0) := fun hlt => by rw [bkR_at hb1 (by omega)]; unfold bkG; rw [if_neg (by omega)]; simp
          refine swp_region ty_ok ?_
          try simp (maxSteps := 1000000) [wdN, hneg0]
          repeat' (first | apply And.intro | intro _)
          any_goals (first | (refine hK36 _ ?_; clear hK36) | (first | omega | (simp only [IntKind.wrap_i64] at *; omega) | (simp_all; done) | (simp_all; omega)))
          refine swp_block ?_
          have hob2 := hO.mono (b := b + 1) (by omega) b (by omega)
          have hol2 := hO.mono (b := (offs rate true).length - 1) (by omega) (b + 1) (by omega)
          rw [hol] at hol2
          refine swp_loop 1 (fun m_ s_ => ∃ (i : Nat), ((offs rate true)[b]?.getD 0 ≤ (i : Int)) ∧ ((i : Int) ≤ (offs rate true)[b + 1]?.getD 0) ∧ (∀ j < i, okV (offs rate true) se m (grp g (w : Nat) : Nat) (j : Nat) (ln[w * 32 + j]?.getD 0) = true) ∧ s_ = ⟨[(3, .ptr 0 0 0 1), (5, .ro (.ints .i64 (offs rate true))), (6, .ro (.ints .i64 (inL 0 g))), (7, .int .i64 (w : Nat)), (8, .ro (.ints .i64 (bkR (se[(grp g (w : Nat))]?.getD [])))), (9, .int .i64 (b : Nat)), (10, .int .i64 (gr ((bkR (se[(grp g (w : Nat))]?.getD []))[b]?.getD 0))), (11, .int .i64 (i : Nat))], [(0, some ⟨.rows 9 [[.int .i64 ga, .int .u8 2, .int .u8 sh, .int .i64 m, .ro (.ints .i64 g), .ro (.rows 1 (se.map fun w => [.ro (.rows 2 (w.map Sc.row))])), .ro (.rows 1 (st.map fun w => [.ro (.ints .i64 w)])), .ro (.rows 1 (tn.map fun w => [.ro (.rows 5 (w.map Fl.row))])), .ro (.ints .i64 ln)]], true, 29⟩)], 1⟩ ∧ m_ = ((offs rate true)[b + 1]?.getD 0).toNat - i) _ ⟨[(3, .ptr 0 0 0 1), (5, .ro (.ints .i64 (offs rate true))), (6, .ro (.ints .i64 (inL 0 g))), (7, .int .i64 (w : Nat)), (8, .ro (.ints .i64 (bkR (se[(grp g (w : Nat))]?.getD [])))), (9, .int .i64 (b : Nat)), (10, .int .i64 (gr ((bkR (se[(grp g (w : Nat))]?.getD []))[b]?.getD 0))), (11, .int .i64 (((offs rate true)[b]?.getD 0).toNat : Nat))], [(0, some ⟨.rows 9 [[.int .i64 ga, .int .u8 2, .int .u8 sh, .int .i64 m, .ro (.ints .i64 g), .ro (.rows 1 (se.map fun w => [.ro (.rows 2 (w.map Sc.row))])), .ro (.rows 1 (st.map fun w => [.ro (.ints .i64 w)])), .ro (.rows 1 (tn.map fun w => [.ro (.rows 5 (w.map Fl.row))])), .ro (.ints .i64 ln)]], true, 29⟩)], 1⟩ ⟨by (simp [getT, PV.lo, lo1]; omega), by simp [getH, Blk.lo, Cells.lo, lo1], rfl, by omega⟩ ⟨(((offs rate true)[b]?.getD 0).toNat), by omega, by omega, by (intro j hj; exact (by assumption : ∀ j : Nat, (j : Int) < (offs rate true)[b]?.getD 0 → okV (offs rate true) se m (grp g (w : Nat) : Nat) (j : Nat) (ln[w * 32 + j]?.getD 0) = true) j (by omega)), rfl, rfl⟩ ?_
          rintro m_ s_ ⟨i, hL37_0, hL37_1, hL37_2, rfl, rfl⟩ KL37 hL37
          have hiw : IntKind.i64.wrap ((i : Int) + 1) = (((i + 1 : Nat)) : Int) := wnext (by omega)
          refine swp_seq fun K38 hK38 => ?_
          refine swp_seq fun K39 hK39 => ?_
          have hbt : (((b : Nat) : Int) + 1).toNat = b + 1 := by omega
          refine swp_region ty_ok ?_
          try simp (maxSteps := 1000000) [wdN, hneg0, hbw1]
          repeat' (first | apply And.intro | intro _)
          any_goals (first | (refine hK39 _ ?_; clear hK39) | (first | omega | (simp only [IntKind.wrap_i64] at *; omega) | (simp_all; done) | (simp_all; omega)))
          refine swp_if fun C40 hC40 => ?_
          try simp (maxSteps := 1000000) [wdN, hneg0, hbw1]
          refine hC40 _ (fun hc40 => ?_) (fun hc40 => ?_)
          · clear hC40
            try simp at hc40
            refine swp_skip ?_
            simp only [thn, inBlk]
            refine hK38 _ ?_; clear hK38
            refine swp_seq fun K41 hK41 => ?_
            refine swp_block ?_
            refine swp_seq fun K42 hK42 => ?_
            have hbc : bnd (offs rate true) (i : Nat) = b := bnd_at hO (by omega) (by omega) (by omega)
            have hw1 : IntKind.i64.wrap ((w : Int) * 32) = (w : Int) * 32 := w64 (by omega)
            have hw2 : IntKind.i64.wrap ((w : Int) * 32 + (i : Nat)) = ((w * 32 + i : Nat) : Int) := by rw [w64 (by omega)]; push_cast; rfl
            have hil2 : w * 32 + i < 256 := by omega
            have hti : ((w : Int) * 32 + (i : Int)).toNat = w * 32 + i := by omega
            refine swp_draw ty_ok mixed (ms := [0, 1, 0, 0, 8, 24, 60, 0, 252, 511, 1023, 2047]) (by kernel_rfl) ?_
            refine runD_cut 5 fun R43 hR43 => ?_
            try simp (maxSteps := 1000000) [wdN, hneg0, hw1, hw2, hti, List.take_succ_cons, List.take_zero, List.drop_succ_cons, List.drop_zero]
            repeat' (first | apply And.intro | intro _)
            any_goals (first | (refine hR43 _ _ _ _ ?_; clear hR43) | (first | omega | (simp only [IntKind.wrap_i64] at *; omega) | (simp_all; done) | (simp_all; omega)))
            refine runD_cut 1 fun R44 hR44 => ?_
            try simp (maxSteps := 1000000) [wdN, hneg0, hw1, hw2, hti, List.take_succ_cons, List.take_zero, List.drop_succ_cons, List.drop_zero]
            refine .inl ⟨_, wide_ok 2 sh m g, ?_⟩
            try simp (maxSteps := 1000000) [wdN, hneg0, hw1, hw2, hti]
            repeat' (first | apply And.intro | intro _)
            any_goals (first | (refine hR44 _ _ _ _ ?_; clear hR44) | (first | omega | (simp only [IntKind.wrap_i64] at *; omega) | (simp_all; done) | (simp_all; omega)))
            try simp (maxSteps := 1000000) [wdN, hneg0, hw1, hw2, hti, List.take_succ_cons, List.take_zero, List.drop_succ_cons, List.drop_zero]
            repeat' (first | apply And.intro | intro _)
            any_goals (first | kernel_rfl | (refine hK42 _ ?_; clear hK42) | (first | omega | (simp only [IntKind.wrap_i64] at *; omega) | (simp_all; done) | (simp_all; omega)))
            refine swp_seq fun K46 hK46 => ?_
            have hng : IntKind.i64.wrap (-(gr ((bkR (se[(grp g (w : Nat))]?.getD []))[b]?.getD 0))) = -(gr ((bkR (se[(grp g (w : Nat))]?.getD []))[b]?.getD 0)) := w64 (by have := gr_bd ((bkR (se[(grp g (w : Nat))]?.getD []))[b]?.getD 0); omega)
            refine swp_region ty_ok ?_
            try simp (maxSteps := 1000000) [wdN, hneg0, hng]
            repeat' (first | apply And.intro | intro _)
            any_goals (first | (refine hK46 _ ?_; clear hK46) | (first | omega | (simp only [IntKind.wrap_i64] at *; omega) | (simp_all; done) | (simp_all; omega)))
            refine swp_if fun C47 hC47 => ?_
            try simp (maxSteps := 1000000) [wdN, hneg0, hng]
            refine hC47 _ (fun hc47 => ?_) (fun hc47 => ?_)
            · clear hC47
              try simp at hc47
              refine swp_seq fun K48 hK48 => ?_
              refine swp_region ty_ok ?_
              try simp (maxSteps := 1000000) [wdN, hneg0]
              repeat' (first | apply And.intro | intro _)
              any_goals (first | (refine hK48 _ ?_; clear hK48) | (first | omega | (simp only [IntKind.wrap_i64] at *; omega) | (simp_all; done) | (simp_all; omega)))
              refine swp_ret ?_
              simp [fnPost, Try.results104, resP, tupOf]
              exact linB_bad (w := w) (i := i) (by omega) (by omega) (okV_out hbc (by omega) hbk (by omega) hc47)
            · clear hC47
              try simp at hc47
              refine swp_skip ?_
              simp only [thn, inBlk]
              refine hK41 _ ?_; clear hK41
              refine swp_region ty_ok ?_
              try simp (maxSteps := 1000000) [wdN, hneg0]
              repeat' apply And.intro
              any_goals (try omega)
              refine hL37 _ ⟨[(3, .ptr 0 0 0 1), (5, .ro (.ints .i64 (offs rate true))), (6, .ro (.ints .i64 (inL 0 g))), (7, .int .i64 (w : Nat)), (8, .ro (.ints .i64 (bkR (se[(grp g (w : Nat))]?.getD [])))), (9, .int .i64 (b : Nat)), (10, .int .i64 (gr ((bkR (se[(grp g (w : Nat))]?.getD []))[b]?.getD 0))), (11, .int .i64 ((i + 1) : Nat))], [(0, some ⟨.rows 9 [[.int .i64 ga, .int .u8 2, .int .u8 sh, .int .i64 m, .ro (.ints .i64 g), .ro (.rows 1 (se.map fun w => [.ro (.rows 2 (w.map Sc.row))])), .ro (.rows 1 (st.map fun w => [.ro (.ints .i64 w)])), .ro (.rows 1 (tn.map fun w => [.ro (.rows 5 (w.map Fl.row))])), .ro (.ints .i64 ln)]], true, 29⟩)], 1⟩ _ ?_ ⟨(i + 1), by (push_cast; omega), by (push_cast; omega), by (refine lt_step (by assumption) ?_; first | exact okV_mem hbc (by omega) hbk (by omega) hc47 | exact okV_z (by have := hc47; omega)), rfl, rfl⟩ ⟨by simp [getT, PV.lo, lo1, hiw], by simp [getH, Blk.lo, Cells.lo, lo1], rfl, by omega⟩
              omega
          · clear hC40
            try simp at hc40
            refine swp_exit ?_
            simp [thn, inBlk]
            refine hK28 _ ?_; clear hK28
            refine swp_region ty_ok ?_
            try simp (maxSteps := 1000000) [wdN, hneg0]
            repeat' apply And.intro
            any_goals (try omega)
            refine hL24 _ ⟨[(3, .ptr 0 0 0 1), (5, .ro (.ints .i64 (offs rate true))), (6, .ro (.ints .i64 (inL 0 g))), (7, .int .i64 (w : Nat)), (8, .ro (.ints .i64 (bkR (se[(grp g (w : Nat))]?.getD [])))), (9, .int .i64 ((b + 1) : Nat))], [(0, some ⟨.rows 9 [[.int .i64 ga, .int .u8 2, .int .u8 sh, .int .i64 m, .ro (.ints .i64 g), .ro (.rows 1 (se.map fun w => [.ro (.rows 2 (w.map Sc.row))])), .ro (.rows 1 (st.map fun w => [.ro (.ints .i64 w)])), .ro (.rows 1 (tn.map fun w => [.ro (.rows 5 (w.map Fl.row))])), .ro (.ints .i64 ln)]], true, 29⟩)], 1⟩ _ ?_ ⟨(b + 1), by omega, by (intro j hj; exact (by assumption : ∀ j < i, okV (offs rate true) se m (grp g (w : Nat) : Nat) (j : Nat) (ln[w * 32 + j]?.getD 0) = true) j (by omega)), rfl, rfl⟩ ⟨by simp [getT, PV.lo, lo1, hbw], by simp [getH, Blk.lo, Cells.lo, lo1], rfl, by omega⟩
            omega
        · clear hC33
          try simp at hc33
          refine swp_skip ?_
          simp only [thn, inBlk]
          refine hK30 _ ?_; clear hK30
          refine swp_seq fun K49 hK49 => ?_
          have hob : ((((offs rate true)[b]?.getD 0).toNat : Nat) : Int) = (offs rate true)[b]?.getD 0 := by have := hO.mono (b := b) (by omega) 0 (by omega); omega
          try have hcc2 := hc33
          have hbkx : (b : Int) < m → (bkG se (grp g (w : Nat) : Nat) (b : Nat)).1 = ((bkR (se[(grp g (w : Nat))]?.getD []))[b]?.getD 0) := fun hlt => by rw [bkR_at hb1 (by omega)]; unfold bkG; rw [if_neg (by omega)]; simp
          refine swp_region ty_ok ?_
          try simp (maxSteps := 1000000) [wdN, hneg0]
          repeat' (first | apply And.intro | intro _)
          any_goals (first | (refine hK49 _ ?_; clear hK49) | (first | omega | (simp only [IntKind.wrap_i64] at *; omega) | (simp_all; done) | (simp_all; omega)))
          refine swp_block ?_
          have hob2 := hO.mono (b := b + 1) (by omega) b (by omega)
          have hol2 := hO.mono (b := (offs rate true).length - 1) (by omega) (b + 1) (by omega)
          rw [hol] at hol2
          refine swp_loop 1 (fun m_ s_ => ∃ (i : Nat), ((offs rate true)[b]?.getD 0 ≤ (i : Int)) ∧ ((i : Int) ≤ (offs rate true)[b + 1]?.getD 0) ∧ (∀ j < i, okV (offs rate true) se m (grp g (w : Nat) : Nat) (j : Nat) (ln[w * 32 + j]?.getD 0) = true) ∧ s_ = ⟨[(3, .ptr 0 0 0 1), (5, .ro (.ints .i64 (offs rate true))), (6, .ro (.ints .i64 (inL 0 g))), (7, .int .i64 (w : Nat)), (8, .ro (.ints .i64 (bkR (se[(grp g (w : Nat))]?.getD [])))), (9, .int .i64 (b : Nat)), (10, .int .i64 0), (11, .int .i64 (i : Nat))], [(0, some ⟨.rows 9 [[.int .i64 ga, .int .u8 2, .int .u8 sh, .int .i64 m, .ro (.ints .i64 g), .ro (.rows 1 (se.map fun w => [.ro (.rows 2 (w.map Sc.row))])), .ro (.rows 1 (st.map fun w => [.ro (.ints .i64 w)])), .ro (.rows 1 (tn.map fun w => [.ro (.rows 5 (w.map Fl.row))])), .ro (.ints .i64 ln)]], true, 29⟩)], 1⟩ ∧ m_ = ((offs rate true)[b + 1]?.getD 0).toNat - i) _ ⟨[(3, .ptr 0 0 0 1), (5, .ro (.ints .i64 (offs rate true))), (6, .ro (.ints .i64 (inL 0 g))), (7, .int .i64 (w : Nat)), (8, .ro (.ints .i64 (bkR (se[(grp g (w : Nat))]?.getD [])))), (9, .int .i64 (b : Nat)), (10, .int .i64 0), (11, .int .i64 (((offs rate true)[b]?.getD 0).toNat : Nat))], [(0, some ⟨.rows 9 [[.int .i64 ga, .int .u8 2, .int .u8 sh, .int .i64 m, .ro (.ints .i64 g), .ro (.rows 1 (se.map fun w => [.ro (.rows 2 (w.map Sc.row))])), .ro (.rows 1 (st.map fun w => [.ro (.ints .i64 w)])), .ro (.rows 1 (tn.map fun w => [.ro (.rows 5 (w.map Fl.row))])), .ro (.ints .i64 ln)]], true, 29⟩)], 1⟩ ⟨by (simp [getT, PV.lo, lo1]; omega), by simp [getH, Blk.lo, Cells.lo, lo1], rfl, by omega⟩ ⟨(((offs rate true)[b]?.getD 0).toNat), by omega, by omega, by (intro j hj; exact (by assumption : ∀ j : Nat, (j : Int) < (offs rate true)[b]?.getD 0 → okV (offs rate true) se m (grp g (w : Nat) : Nat) (j : Nat) (ln[w * 32 + j]?.getD 0) = true) j (by omega)), rfl, rfl⟩ ?_
          rintro m_ s_ ⟨i, hL50_0, hL50_1, hL50_2, rfl, rfl⟩ KL50 hL50
          have hiw : IntKind.i64.wrap ((i : Int) + 1) = (((i + 1 : Nat)) : Int) := wnext (by omega)
          refine swp_seq fun K51 hK51 => ?_
          refine swp_seq fun K52 hK52 => ?_
          have hbt : (((b : Nat) : Int) + 1).toNat = b + 1 := by omega
          refine swp_region ty_ok ?_
          try simp (maxSteps := 1000000) [wdN, hneg0, hbw1]
          repeat' (first | apply And.intro | intro _)
          any_goals (first | (refine hK52 _ ?_; clear hK52) | (first | omega | (simp only [IntKind.wrap_i64] at *; omega) | (simp_all; done) | (simp_all; omega)))
          refine swp_if fun C53 hC53 => ?_
          try simp (maxSteps := 1000000) [wdN, hneg0, hbw1]
          refine hC53 _ (fun hc53 => ?_) (fun hc53 => ?_)
          · clear hC53
            try simp at hc53
            refine swp_skip ?_
            simp only [thn, inBlk]
            refine hK51 _ ?_; clear hK51
            refine swp_seq fun K54 hK54 => ?_
            refine swp_block ?_
            refine swp_seq fun K55 hK55 => ?_
            have hbc : bnd (offs rate true) (i : Nat) = b := bnd_at hO (by omega) (by omega) (by omega)
            have hw1 : IntKind.i64.wrap ((w : Int) * 32) = (w : Int) * 32 := w64 (by omega)
            have hw2 : IntKind.i64.wrap ((w : Int) * 32 + (i : Nat)) = ((w * 32 + i : Nat) : Int) := by rw [w64 (by omega)]; push_cast; rfl
            have hil2 : w * 32 + i < 256 := by omega
            have hti : ((w : Int) * 32 + (i : Int)).toNat = w * 32 + i := by omega
            refine swp_draw ty_ok mixed (ms := [0, 1, 0, 0, 8, 24, 60, 0, 252, 511, 1023, 2047]) (by kernel_rfl) ?_
            refine runD_cut 5 fun R56 hR56 => ?_
            try simp (maxSteps := 1000000) [wdN, hneg0, hw1, hw2, hti, List.take_succ_cons, List.take_zero, List.drop_succ_cons, List.drop_zero]
            repeat' (first | apply And.intro | intro _)
            any_goals (first | (refine hR56 _ _ _ _ ?_; clear hR56) | (first | omega | (simp only [IntKind.wrap_i64] at *; omega) | (simp_all; done) | (simp_all; omega)))
            refine runD_cut 1 fun R57 hR57 => ?_
            try simp (maxSteps := 1000000) [wdN, hneg0, hw1, hw2, hti, List.take_succ_cons, List.take_zero, List.drop_succ_cons, List.drop_zero]
            refine .inl ⟨_, wide_ok 2 sh m g, ?_⟩
            try simp (maxSteps := 1000000) [wdN, hneg0, hw1, hw2, hti]
            repeat' (first | apply And.intro | intro _)
            any_goals (first | (refine hR57 _ _ _ _ ?_; clear hR57) | (first | omega | (simp only [IntKind.wrap_i64] at *; omega) | (simp_all; done) | (simp_all; omega)))
            try simp (maxSteps := 1000000) [wdN, hneg0, hw1, hw2, hti, List.take_succ_cons, List.take_zero, List.drop_succ_cons, List.drop_zero]
            repeat' (first | apply And.intro | intro _)
            any_goals (first | kernel_rfl | (refine hK55 _ ?_; clear hK55) | (first | omega | (simp only [IntKind.wrap_i64] at *; omega) | (simp_all; done) | (simp_all; omega)))
            refine swp_seq fun K59 hK59 => ?_
            have hng : IntKind.i64.wrap (-(gr ((bkR (se[(grp g (w : Nat))]?.getD []))[b]?.getD 0))) = -(gr ((bkR (se[(grp g (w : Nat))]?.getD []))[b]?.getD 0)) := w64 (by have := gr_bd ((bkR (se[(grp g (w : Nat))]?.getD []))[b]?.getD 0); omega)
            refine swp_region ty_ok ?_
            try simp (maxSteps := 1000000) [wdN, hneg0, hng]
            repeat' (first | apply And.intro | intro _)
            any_goals (first | (refine hK59 _ ?_; clear hK59) | (first | omega | (simp only [IntKind.wrap_i64] at *; omega) | (simp_all; done) | (simp_all; omega)))
            refine swp_if fun C60 hC60 => ?_
            try simp (maxSteps := 1000000) [wdN, hneg0, hng]
            refine hC60 _ (fun hc60 => ?_) (fun hc60 => ?_)
            · clear hC60
              try simp at hc60
              refine swp_seq fun K61 hK61 => ?_
              refine swp_region ty_ok ?_
              try simp (maxSteps := 1000000) [wdN, hneg0]
              repeat' (first | apply And.intro | intro _)
              any_goals (first | (refine hK61 _ ?_; clear hK61) | (first | omega | (simp only [IntKind.wrap_i64] at *; omega) | (simp_all; done) | (simp_all; omega)))
              refine swp_ret ?_
              simp [fnPost, Try.results104, resP, tupOf]
              exact linB_bad (w := w) (i := i) (by omega) (by omega) (okV_nz hbc (fun h1 h2 => by rw [hbkx h1] at h2 ⊢; exact hcc2 (by omega) h2) (by have := hc60; omega))
            · clear hC60
              try simp at hc60
              refine swp_skip ?_
              simp only [thn, inBlk]
              refine hK54 _ ?_; clear hK54
              refine swp_region ty_ok ?_
              try simp (maxSteps := 1000000) [wdN, hneg0]
              repeat' apply And.intro
              any_goals (try omega)
              refine hL50 _ ⟨[(3, .ptr 0 0 0 1), (5, .ro (.ints .i64 (offs rate true))), (6, .ro (.ints .i64 (inL 0 g))), (7, .int .i64 (w : Nat)), (8, .ro (.ints .i64 (bkR (se[(grp g (w : Nat))]?.getD [])))), (9, .int .i64 (b : Nat)), (10, .int .i64 0), (11, .int .i64 ((i + 1) : Nat))], [(0, some ⟨.rows 9 [[.int .i64 ga, .int .u8 2, .int .u8 sh, .int .i64 m, .ro (.ints .i64 g), .ro (.rows 1 (se.map fun w => [.ro (.rows 2 (w.map Sc.row))])), .ro (.rows 1 (st.map fun w => [.ro (.ints .i64 w)])), .ro (.rows 1 (tn.map fun w => [.ro (.rows 5 (w.map Fl.row))])), .ro (.ints .i64 ln)]], true, 29⟩)], 1⟩ _ ?_ ⟨(i + 1), by (push_cast; omega), by (push_cast; omega), by (refine lt_step (by assumption) ?_; first | exact okV_mem hbc (by omega) hbk (by omega) hc60 | exact okV_z (by have := hc60; omega)), rfl, rfl⟩ ⟨by simp [getT, PV.lo, lo1, hiw], by simp [getH, Blk.lo, Cells.lo, lo1], rfl, by omega⟩
              omega
          · clear hC53
            try simp at hc53
            refine swp_exit ?_
            simp [thn, inBlk]
            refine hK28 _ ?_; clear hK28
            refine swp_region ty_ok ?_
            try simp (maxSteps := 1000000) [wdN, hneg0]
            repeat' apply And.intro
            any_goals (try omega)
            refine hL24 _ ⟨[(3, .ptr 0 0 0 1), (5, .ro (.ints .i64 (offs rate true))), (6, .ro (.ints .i64 (inL 0 g))), (7, .int .i64 (w : Nat)), (8, .ro (.ints .i64 (bkR (se[(grp g (w : Nat))]?.getD [])))), (9, .int .i64 ((b + 1) : Nat))], [(0, some ⟨.rows 9 [[.int .i64 ga, .int .u8 2, .int .u8 sh, .int .i64 m, .ro (.ints .i64 g), .ro (.rows 1 (se.map fun w => [.ro (.rows 2 (w.map Sc.row))])), .ro (.rows 1 (st.map fun w => [.ro (.ints .i64 w)])), .ro (.rows 1 (tn.map fun w => [.ro (.rows 5 (w.map Fl.row))])), .ro (.ints .i64 ln)]], true, 29⟩)], 1⟩ _ ?_ ⟨(b + 1), by omega, by (intro j hj; exact (by assumption : ∀ j < i, okV (offs rate true) se m (grp g (w : Nat) : Nat) (j : Nat) (ln[w * 32 + j]?.getD 0) = true) j (by omega)), rfl, rfl⟩ ⟨by simp [getT, PV.lo, lo1, hbw], by simp [getH, Blk.lo, Cells.lo, lo1], rfl, by omega⟩
            omega
      · clear hC27
        try simp at hc27
        refine swp_exit ?_
        simp [thn, inBlk]
        refine hK18 _ ?_; clear hK18
        refine swp_region ty_ok ?_
        try simp (maxSteps := 1000000) [wdN, hneg0]
        repeat' apply And.intro
        any_goals (try omega)
        refine hL14 _ ⟨[(3, .ptr 0 0 0 1), (5, .ro (.ints .i64 (offs rate true))), (6, .ro (.ints .i64 (inL 0 g))), (7, .int .i64 ((w + 1) : Nat))], [(0, some ⟨.rows 9 [[.int .i64 ga, .int .u8 2, .int .u8 sh, .int .i64 m, .ro (.ints .i64 g), .ro (.rows 1 (se.map fun w => [.ro (.rows 2 (w.map Sc.row))])), .ro (.rows 1 (st.map fun w => [.ro (.ints .i64 w)])), .ro (.rows 1 (tn.map fun w => [.ro (.rows 5 (w.map Fl.row))])), .ro (.ints .i64 ln)]], true, 29⟩)], 1⟩ _ ?_ ⟨(w + 1), by omega, by (refine lt_step (by assumption) (range_all fun j hj => ?_); exact (by assumption : ∀ j : Nat, (j : Int) < (offs rate true)[b]?.getD 0 → okV (offs rate true) se m (grp g (w : Nat) : Nat) (j : Nat) (ln[w * 32 + j]?.getD 0) = true) j (by rw [show b = (offs rate true).length - 1 by omega, hol]; omega)), rfl, rfl⟩ ⟨by simp [getT, PV.lo, lo1, hww], by simp [getH, Blk.lo, Cells.lo, lo1], rfl, by omega⟩
        omega
    · clear hC17
      try simp at hc17
      refine swp_exit ?_
      simp [thn, inBlk]
      refine hK12 _ ?_; clear hK12
      refine swp_seq fun K62 hK62 => ?_
      refine swp_region ty_ok ?_
      try simp (maxSteps := 1000000) [wdN, hneg0]
      repeat' (first | apply And.intro | intro _)
      any_goals (first | (refine hK62 _ ?_; clear hK62) | (first | omega | (simp only [IntKind.wrap_i64] at *; omega) | (simp_all; done) | (simp_all; omega)))
      refine swp_ret ?_
      simp [fnPost, Try.results104, resP, tupOf]
      exact linB_ok (w := w) (by omega) (by omega) (by assumption)

set_option maxHeartbeats 16000000 in
theorem mayL_l (rate : Int) (ga s sh m : Int) (g : List Int) (se : List (List Sc)) (st : List (List Int)) (tn : List (List Fl)) (ln : List Int) (hr : 0 ≤ rate ∧ rate ≤ 11) (hss : ¬ s = 2) (hm11 : mayI 11 s sh m g = true) (hwn : winI s sh m g = 1) (hx : g.length ≤ 1000) (hg : se.length = g.length) (hs : ∀ w ∈ se, secL m w = true) (hm : 0 ≤ m ∧ m ≤ 40) : PCall Try.prog 104 [.int .i64 rate, .agg [.int .i64 ga, .int .u8 s, .int .u8 sh, .int .i64 m, .ro (.ints .i64 g), .ro (.rows 1 (se.map fun w => [.ro (.rows 2 (w.map Sc.row))])), .ro (.rows 1 (st.map fun w => [.ro (.ints .i64 w)])), .ro (.rows 1 (tn.map fun w => [.ro (.rows 5 (w.map Fl.row))])), .ro (.ints .i64 ln)]] (.bool (linB (offs rate false) se m g ln 1 256)) := by
  have hneg0 : IntKind.i64.wrap (-0) = 0 := by decide
  have hO := offs_fine hr false
  simp only [Bool.false_eq_true, if_false] at hO
  obtain ⟨ho1, ho2⟩ := hO.len
  have hoz := hO.zero
  have hol := hO.last
  obtain ⟨hp1, hp2, hp3⟩ := may_pos hm11
  have hil := inL_len g 0 hp1
  refine pcall_body ty_ok Try.func104 rfl (by rfl) (by simp) ?_
  rw [Try.ntmps104]
  refine swp_seq fun K1 hK1 => ?_
  refine swp_region ty_ok ?_
  try simp (maxSteps := 1000000) [wdN, hneg0, hss]
  repeat' (first | apply And.intro | intro _)
  any_goals (first | (refine hK1 _ ?_; clear hK1) | (first | omega | (simp only [IntKind.wrap_i64] at *; omega) | (simp_all; done) | (simp_all; omega)))
  refine swp_seq fun K2 hK2 => ?_
  refine swp_seq fun K3 hK3 => ?_
  refine swp_region ty_ok ?_
  try simp (maxSteps := 1000000) [wdN, hneg0, hss]
  repeat' (first | apply And.intro | intro _)
  any_goals (first | (refine hK3 _ ?_; clear hK3) | (first | omega | (simp only [IntKind.wrap_i64] at *; omega) | (simp_all; done) | (simp_all; omega)))
  refine swp_if fun C4 hC4 => ?_
  try simp (maxSteps := 1000000) [wdN, hneg0, hss]
  refine hC4 _ (fun hc4 => ?_) (fun hc4 => ?_)
  · clear hC4
    try simp at hc4
    refine swp_seq fun K5 hK5 => ?_
    refine swp_region ty_ok ?_
    try simp (maxSteps := 1000000) [wdN, hneg0, hss]
    repeat' (first | apply And.intro | intro _)
    any_goals (first | (refine hK5 _ ?_; clear hK5) | (first | omega | (simp only [IntKind.wrap_i64] at *; omega) | (simp_all; done) | (simp_all; omega)))
    refine swp_ret ?_
    simp [fnPost, Try.results104, resP, tupOf]
    exact linB_len (by omega)
  · clear hC4
    try simp at hc4
    refine swp_skip ?_
    simp only [thn, inBlk]
    refine hK2 _ ?_; clear hK2
    refine swp_seq fun K6 hK6 => ?_
    refine swp_region ty_ok ?_
    refine runs_cut 5 fun R7 hR7 => ?_
    try simp (maxSteps := 1000000) [wdN, hneg0, hss, List.take_succ_cons, List.take_zero, List.drop_succ_cons, List.drop_zero]
    repeat' (first | apply And.intro | intro _)
    any_goals (first | (refine hR7 _ ?_; clear hR7) | (first | omega | (simp only [IntKind.wrap_i64] at *; omega) | (simp_all; done) | (simp_all; omega)))
    refine runs_cut 1 fun R8 hR8 => ?_
    try simp (maxSteps := 1000000) [wdN, hneg0, hss, List.take_succ_cons, List.take_zero, List.drop_succ_cons, List.drop_zero]
    refine .inl ⟨_, reedpiperef06_Offsets_ok rate false hr, ?_⟩
    try simp (maxSteps := 1000000) [wdN, hneg0, hss]
    repeat' (first | apply And.intro | intro _)
    any_goals (first | (refine hR8 _ ?_; clear hR8) | (first | omega | (simp only [IntKind.wrap_i64] at *; omega) | (simp_all; done) | (simp_all; omega)))
    try simp (maxSteps := 1000000) [wdN, hneg0, hss, List.take_succ_cons, List.take_zero, List.drop_succ_cons, List.drop_zero]
    repeat' (first | apply And.intro | intro _)
    any_goals (first | (refine hK6 _ ?_; clear hK6) | (first | omega | (simp only [IntKind.wrap_i64] at *; omega) | (simp_all; done) | (simp_all; omega)))
    refine swp_seq fun K9 hK9 => ?_
    refine swp_region ty_ok ?_
    refine runs_cut 2 fun R10 hR10 => ?_
    try simp (maxSteps := 1000000) [wdN, hneg0, hss, List.take_succ_cons, List.take_zero, List.drop_succ_cons, List.drop_zero]
    repeat' (first | apply And.intro | intro _)
    any_goals (first | (refine hR10 _ ?_; clear hR10) | (first | omega | (simp only [IntKind.wrap_i64] at *; omega) | (simp_all; done) | (simp_all; omega)))
    refine runs_cut 1 fun R11 hR11 => ?_
    try simp (maxSteps := 1000000) [wdN, hneg0, hss, List.take_succ_cons, List.take_zero, List.drop_succ_cons, List.drop_zero]
    refine .inl ⟨_, reedpiperef10_In_ok s sh m g hp1 (by omega), ?_⟩
    try simp (maxSteps := 1000000) [wdN, hneg0, hss]
    repeat' (first | apply And.intro | intro _)
    any_goals (first | (refine hR11 _ ?_; clear hR11) | (first | omega | (simp only [IntKind.wrap_i64] at *; omega) | (simp_all; done) | (simp_all; omega)))
    try simp (maxSteps := 1000000) [wdN, hneg0, hss, List.take_succ_cons, List.take_zero, List.drop_succ_cons, List.drop_zero]
    repeat' (first | apply And.intro | intro _)
    any_goals (first | (refine hK9 _ ?_; clear hK9) | (first | omega | (simp only [IntKind.wrap_i64] at *; omega) | (simp_all; done) | (simp_all; omega)))
    refine swp_seq fun K12 hK12 => ?_
    refine swp_seq fun K13 hK13 => ?_
    refine swp_region ty_ok ?_
    try simp (maxSteps := 1000000) [wdN, hneg0, hss]
    repeat' (first | apply And.intro | intro _)
    any_goals (first | (refine hK13 _ ?_; clear hK13) | (first | omega | (simp only [IntKind.wrap_i64] at *; omega) | (simp_all; done) | (simp_all; omega)))
    refine swp_block ?_
    refine swp_loop 1 (fun m_ s_ => ∃ (w : Nat), (w ≤ 1) ∧ (∀ j < w, linW (offs rate false) se m g ln 256 j = true) ∧ s_ = ⟨[(3, .ptr 0 0 0 1), (5, .ro (.ints .i64 (offs rate false))), (6, .ro (.ints .i64 (inL 0 g))), (7, .int .i64 (w : Nat))], [(0, some ⟨.rows 9 [[.int .i64 ga, .int .u8 s, .int .u8 sh, .int .i64 m, .ro (.ints .i64 g), .ro (.rows 1 (se.map fun w => [.ro (.rows 2 (w.map Sc.row))])), .ro (.rows 1 (st.map fun w => [.ro (.ints .i64 w)])), .ro (.rows 1 (tn.map fun w => [.ro (.rows 5 (w.map Fl.row))])), .ro (.ints .i64 ln)]], true, 29⟩)], 1⟩ ∧ m_ = 1 - w) _ ⟨[(3, .ptr 0 0 0 1), (5, .ro (.ints .i64 (offs rate false))), (6, .ro (.ints .i64 (inL 0 g))), (7, .int .i64 (0 : Nat))], [(0, some ⟨.rows 9 [[.int .i64 ga, .int .u8 s, .int .u8 sh, .int .i64 m, .ro (.ints .i64 g), .ro (.rows 1 (se.map fun w => [.ro (.rows 2 (w.map Sc.row))])), .ro (.rows 1 (st.map fun w => [.ro (.ints .i64 w)])), .ro (.rows 1 (tn.map fun w => [.ro (.rows 5 (w.map Fl.row))])), .ro (.ints .i64 ln)]], true, 29⟩)], 1⟩ ⟨by simp [getT, PV.lo, lo1], by simp [getH, Blk.lo, Cells.lo, lo1], rfl, by omega⟩ ⟨(0), by omega, by simp, rfl, rfl⟩ ?_
    rintro m_ s_ ⟨w, hL14_0, hL14_1, rfl, rfl⟩ KL14 hL14
    have hww : IntKind.i64.wrap ((w : Int) + 1) = (((w + 1 : Nat)) : Int) := wnext (by omega)
    refine swp_seq fun K15 hK15 => ?_
    refine swp_seq fun K16 hK16 => ?_
    refine swp_region ty_ok ?_
    try simp (maxSteps := 1000000) [wdN, hneg0, hss]
    repeat' (first | apply And.intro | intro _)
    any_goals (first | (refine hK16 _ ?_; clear hK16) | (first | omega | (simp only [IntKind.wrap_i64] at *; omega) | (simp_all; done) | (simp_all; omega)))
    refine swp_if fun C17 hC17 => ?_
    try simp (maxSteps := 1000000) [wdN, hneg0, hss]
    refine hC17 _ (fun hc17 => ?_) (fun hc17 => ?_)
    · clear hC17
      try simp at hc17
      refine swp_skip ?_
      simp only [thn, inBlk]
      refine hK15 _ ?_; clear hK15
      refine swp_seq fun K18 hK18 => ?_
      refine swp_block ?_
      refine swp_seq fun K19 hK19 => ?_
      have hgi := inL_get g 0 (w : Int) hp1 (by omega) (by omega)
      simp only [Int.toNat_natCast, Nat.zero_add] at hgi
      have hgl : grp g (w : Nat) < g.length := grp_lt hp1 (by omega) (by omega)
      have hrowS := s_at (l := se) (k := grp g (w : Nat)) (by omega)
      have hmk : (se[(grp g (w : Nat))]?.getD []) ∈ se := mem_at (w := se) (by omega)
      obtain ⟨hb1, hb2, hb3⟩ := secL_true (hs _ hmk)
      have hbl := bkR_len hb1
      rw [hb2] at hbl
      refine swp_draw ty_ok mixed (ms := [0, 1, 0, 0, 12, 28, 63, 127, 255, 511]) (by kernel_rfl) ?_
      refine runD_cut 8 fun R20 hR20 => ?_
      try simp (maxSteps := 1000000) [wdN, hneg0, hss, hgi, hrowS, List.take_succ_cons, List.take_zero, List.drop_succ_cons, List.drop_zero]
      repeat' (first | apply And.intro | intro _)
      any_goals (first | (refine hR20 _ _ _ _ ?_; clear hR20) | (first | omega | (simp only [IntKind.wrap_i64] at *; omega) | (simp_all; done) | (simp_all; omega)))
      refine runD_cut 1 fun R21 hR21 => ?_
      try simp (maxSteps := 1000000) [wdN, hneg0, hss, hgi, hrowS, List.take_succ_cons, List.take_zero, List.drop_succ_cons, List.drop_zero]
      refine .inl ⟨_, books_ok (se[(grp g (w : Nat))]?.getD []) hb1 hb3, ?_⟩
      try simp (maxSteps := 1000000) [wdN, hneg0, hss, hgi, hrowS]
      repeat' (first | apply And.intro | intro _)
      any_goals (first | (refine hR21 _ _ _ _ ?_; clear hR21) | (first | omega | (simp only [IntKind.wrap_i64] at *; omega) | (simp_all; done) | (simp_all; omega)))
      try simp (maxSteps := 1000000) [wdN, hneg0, hss, hgi, hrowS, List.take_succ_cons, List.take_zero, List.drop_succ_cons, List.drop_zero]
      repeat' (first | apply And.intro | intro _)
      any_goals (first | kernel_rfl | (refine hK19 _ ?_; clear hK19) | (first | omega | (simp only [IntKind.wrap_i64] at *; omega) | (simp_all; done) | (simp_all; omega)))
      refine swp_seq fun K23 hK23 => ?_
      refine swp_region ty_ok ?_
      try simp (maxSteps := 1000000) [wdN, hneg0, hss]
      repeat' (first | apply And.intro | intro _)
      any_goals (first | (refine hK23 _ ?_; clear hK23) | (first | omega | (simp only [IntKind.wrap_i64] at *; omega) | (simp_all; done) | (simp_all; omega)))
      refine swp_block ?_
      refine swp_loop 1 (fun m_ s_ => ∃ (b : Nat), (b + 1 ≤ (offs rate false).length) ∧ (∀ j : Nat, (j : Int) < (offs rate false)[b]?.getD 0 → okV (offs rate false) se m (grp g (w : Nat) : Nat) (j : Nat) (ln[w * 256 + j]?.getD 0) = true) ∧ s_ = ⟨[(3, .ptr 0 0 0 1), (5, .ro (.ints .i64 (offs rate false))), (6, .ro (.ints .i64 (inL 0 g))), (7, .int .i64 (w : Nat)), (8, .ro (.ints .i64 (bkR (se[(grp g (w : Nat))]?.getD [])))), (9, .int .i64 (b : Nat))], [(0, some ⟨.rows 9 [[.int .i64 ga, .int .u8 s, .int .u8 sh, .int .i64 m, .ro (.ints .i64 g), .ro (.rows 1 (se.map fun w => [.ro (.rows 2 (w.map Sc.row))])), .ro (.rows 1 (st.map fun w => [.ro (.ints .i64 w)])), .ro (.rows 1 (tn.map fun w => [.ro (.rows 5 (w.map Fl.row))])), .ro (.ints .i64 ln)]], true, 29⟩)], 1⟩ ∧ m_ = (offs rate false).length - b) _ ⟨[(3, .ptr 0 0 0 1), (5, .ro (.ints .i64 (offs rate false))), (6, .ro (.ints .i64 (inL 0 g))), (7, .int .i64 (w : Nat)), (8, .ro (.ints .i64 (bkR (se[(grp g (w : Nat))]?.getD [])))), (9, .int .i64 (0 : Nat))], [(0, some ⟨.rows 9 [[.int .i64 ga, .int .u8 s, .int .u8 sh, .int .i64 m, .ro (.ints .i64 g), .ro (.rows 1 (se.map fun w => [.ro (.rows 2 (w.map Sc.row))])), .ro (.rows 1 (st.map fun w => [.ro (.ints .i64 w)])), .ro (.rows 1 (tn.map fun w => [.ro (.rows 5 (w.map Fl.row))])), .ro (.ints .i64 ln)]], true, 29⟩)], 1⟩ ⟨by simp [getT, PV.lo, lo1], by simp [getH, Blk.lo, Cells.lo, lo1], rfl, by omega⟩ ⟨(0), by omega, by (intro j hj; rw [hoz] at hj; omega), rfl, rfl⟩ ?_
      rintro m_ s_ ⟨b, hL24_0, hL24_1, rfl, rfl⟩ KL24 hL24
      have hbw : IntKind.i64.wrap ((b : Int) + 1) = (((b + 1 : Nat)) : Int) := wnext (by omega)
      refine swp_seq fun K25 hK25 => ?_
      refine swp_seq fun K26 hK26 => ?_
      have hbw1 : IntKind.i64.wrap ((b : Int) + 1) = ((b + 1 : Nat) : Int) := wnext (by omega)
      refine swp_region ty_ok ?_
      try simp (maxSteps := 1000000) [wdN, hneg0, hss, hbw1]
      repeat' (first | apply And.intro | intro _)
      any_goals (first | (refine hK26 _ ?_; clear hK26) | (first | omega | (simp only [IntKind.wrap_i64] at *; omega) | (simp_all; done) | (simp_all; omega)))
      refine swp_if fun C27 hC27 => ?_
      try simp (maxSteps := 1000000) [wdN, hneg0, hss, hbw1]
      refine hC27 _ (fun hc27 => ?_) (fun hc27 => ?_)
      · clear hC27
        try simp at hc27
        refine swp_skip ?_
        simp only [thn, inBlk]
        refine hK25 _ ?_; clear hK25
        refine swp_seq fun K28 hK28 => ?_
        refine swp_block ?_
        refine swp_seq fun K29 hK29 => ?_
        refine swp_region ty_ok ?_
        try simp (maxSteps := 1000000) [wdN, hneg0, hss]
        repeat' (first | apply And.intro | intro _)
        any_goals (first | (refine hK29 _ ?_; clear hK29) | (first | omega | (simp only [IntKind.wrap_i64] at *; omega) | (simp_all; done) | (simp_all; omega)))
        refine swp_seq fun K30 hK30 => ?_
        refine swp_seq fun K31 hK31 => ?_
        refine swp_region ty_ok ?_
        refine runs_cut 9 fun R32 hR32 => ?_
        try simp (maxSteps := 1000000) [wdN, hneg0, hss, List.take_succ_cons, List.take_zero, List.drop_succ_cons, List.drop_zero]
        repeat' (first | apply And.intro | intro _)
        any_goals (first | (refine hR32 _ ?_; clear hR32) | (first | omega | (simp only [IntKind.wrap_i64] at *; omega) | (simp_all; done) | (simp_all; omega)))
        try simp (maxSteps := 1000000) [wdN, hneg0, hss, List.take_succ_cons, List.take_zero, List.drop_succ_cons, List.drop_zero]
        repeat' (first | apply And.intro | intro _)
        any_goals (first | (refine hK31 _ ?_; clear hK31) | (first | omega | (simp only [IntKind.wrap_i64] at *; omega) | (simp_all; done) | (simp_all; omega)))
        refine swp_if fun C33 hC33 => ?_
        try simp (maxSteps := 1000000) [wdN, hneg0, hss]
        refine hC33 _ (fun hc33 => ?_) (fun hc33 => ?_)
        · clear hC33
          try simp at hc33
          have hcc := hc33
          have hbk : (bkG se (grp g (w : Nat) : Nat) (b : Nat)).1 = ((bkR (se[(grp g (w : Nat))]?.getD []))[b]?.getD 0) := by rw [bkR_at hb1 (by omega)]; unfold bkG; rw [if_neg (by omega)]; simp
          refine swp_region ty_ok ?_
          refine runs_cut 4 fun R34 hR34 => ?_
          try simp (maxSteps := 1000000) [wdN, hneg0, hss, List.take_succ_cons, List.take_zero, List.drop_succ_cons, List.drop_zero]
          repeat' (first | apply And.intro | intro _)
          any_goals (first | (refine hR34 _ ?_; clear hR34) | (first | omega | (simp only [IntKind.wrap_i64] at *; omega) | (simp_all; done) | (simp_all; omega)))
          refine runs_cut 1 fun R35 hR35 => ?_
          try simp (maxSteps := 1000000) [wdN, hneg0, hss, List.take_succ_cons, List.take_zero, List.drop_succ_cons, List.drop_zero]
          refine .inl ⟨_, most_ok ((bkR (se[(grp g (w : Nat))]?.getD []))[b]?.getD 0) (by omega), ?_⟩
          try simp (maxSteps := 1000000) [wdN, hneg0, hss]
          repeat' (first | apply And.intro | intro _)
          any_goals (first | (refine hR35 _ ?_; clear hR35) | (first | omega | (simp only [IntKind.wrap_i64] at *; omega) | (simp_all; done) | (simp_all; omega)))
          try simp (maxSteps := 1000000) [wdN, hneg0, hss, List.take_succ_cons, List.take_zero, List.drop_succ_cons, List.drop_zero]
          repeat' (first | apply And.intro | intro _)
          any_goals (first | (refine hK30 _ ?_; clear hK30) | (first | omega | (simp only [IntKind.wrap_i64] at *; omega) | (simp_all; done) | (simp_all; omega)))
          refine swp_seq fun K36 hK36 => ?_
          have hob : ((((offs rate false)[b]?.getD 0).toNat : Nat) : Int) = (offs rate false)[b]?.getD 0 := by have := hO.mono (b := b) (by omega) 0 (by omega); omega
          try have hcc2 := hc33
          have hbkx : (b : Int) < m → (bkG se (grp g (w : Nat) : Nat) (b : Nat)).1 = ((bkR (se[(grp g (w : Nat))]?.getD []))[b]?.getD 0) := fun hlt => by rw [bkR_at hb1 (by omega)]; unfold bkG; rw [if_neg (by omega)]; simp
          refine swp_region ty_ok ?_
          try simp (maxSteps := 1000000) [wdN, hneg0, hss]
          repeat' (first | apply And.intro | intro _)
          any_goals (first | (refine hK36 _ ?_; clear hK36) | (first | omega | (simp only [IntKind.wrap_i64] at *; omega) | (simp_all; done) | (simp_all; omega)))
          refine swp_block ?_
          have hob2 := hO.mono (b := b + 1) (by omega) b (by omega)
          have hol2 := hO.mono (b := (offs rate false).length - 1) (by omega) (b + 1) (by omega)
          rw [hol] at hol2
          refine swp_loop 1 (fun m_ s_ => ∃ (i : Nat), ((offs rate false)[b]?.getD 0 ≤ (i : Int)) ∧ ((i : Int) ≤ (offs rate false)[b + 1]?.getD 0) ∧ (∀ j < i, okV (offs rate false) se m (grp g (w : Nat) : Nat) (j : Nat) (ln[w * 256 + j]?.getD 0) = true) ∧ s_ = ⟨[(3, .ptr 0 0 0 1), (5, .ro (.ints .i64 (offs rate false))), (6, .ro (.ints .i64 (inL 0 g))), (7, .int .i64 (w : Nat)), (8, .ro (.ints .i64 (bkR (se[(grp g (w : Nat))]?.getD [])))), (9, .int .i64 (b : Nat)), (10, .int .i64 (gr ((bkR (se[(grp g (w : Nat))]?.getD []))[b]?.getD 0))), (11, .int .i64 (i : Nat))], [(0, some ⟨.rows 9 [[.int .i64 ga, .int .u8 s, .int .u8 sh, .int .i64 m, .ro (.ints .i64 g), .ro (.rows 1 (se.map fun w => [.ro (.rows 2 (w.map Sc.row))])), .ro (.rows 1 (st.map fun w => [.ro (.ints .i64 w)])), .ro (.rows 1 (tn.map fun w => [.ro (.rows 5 (w.map Fl.row))])), .ro (.ints .i64 ln)]], true, 29⟩)], 1⟩ ∧ m_ = ((offs rate false)[b + 1]?.getD 0).toNat - i) _ ⟨[(3, .ptr 0 0 0 1), (5, .ro (.ints .i64 (offs rate false))), (6, .ro (.ints .i64 (inL 0 g))), (7, .int .i64 (w : Nat)), (8, .ro (.ints .i64 (bkR (se[(grp g (w : Nat))]?.getD [])))), (9, .int .i64 (b : Nat)), (10, .int .i64 (gr ((bkR (se[(grp g (w : Nat))]?.getD []))[b]?.getD 0))), (11, .int .i64 (((offs rate false)[b]?.getD 0).toNat : Nat))], [(0, some ⟨.rows 9 [[.int .i64 ga, .int .u8 s, .int .u8 sh, .int .i64 m, .ro (.ints .i64 g), .ro (.rows 1 (se.map fun w => [.ro (.rows 2 (w.map Sc.row))])), .ro (.rows 1 (st.map fun w => [.ro (.ints .i64 w)])), .ro (.rows 1 (tn.map fun w => [.ro (.rows 5 (w.map Fl.row))])), .ro (.ints .i64 ln)]], true, 29⟩)], 1⟩ ⟨by (simp [getT, PV.lo, lo1]; omega), by simp [getH, Blk.lo, Cells.lo, lo1], rfl, by omega⟩ ⟨(((offs rate false)[b]?.getD 0).toNat), by omega, by omega, by (intro j hj; exact (by assumption : ∀ j : Nat, (j : Int) < (offs rate false)[b]?.getD 0 → okV (offs rate false) se m (grp g (w : Nat) : Nat) (j : Nat) (ln[w * 256 + j]?.getD 0) = true) j (by omega)), rfl, rfl⟩ ?_
          rintro m_ s_ ⟨i, hL37_0, hL37_1, hL37_2, rfl, rfl⟩ KL37 hL37
          have hiw : IntKind.i64.wrap ((i : Int) + 1) = (((i + 1 : Nat)) : Int) := wnext (by omega)
          refine swp_seq fun K38 hK38 => ?_
          refine swp_seq fun K39 hK39 => ?_
          have hbt : (((b : Nat) : Int) + 1).toNat = b + 1 := by omega
          refine swp_region ty_ok ?_
          try simp (maxSteps := 1000000) [wdN, hneg0, hss, hbw1]
          repeat' (first | apply And.intro | intro _)
          any_goals (first | (refine hK39 _ ?_; clear hK39) | (first | omega | (simp only [IntKind.wrap_i64] at *; omega) | (simp_all; done) | (simp_all; omega)))
          refine swp_if fun C40 hC40 => ?_
          try simp (maxSteps := 1000000) [wdN, hneg0, hss, hbw1]
          refine hC40 _ (fun hc40 => ?_) (fun hc40 => ?_)
          · clear hC40
            try simp at hc40
            refine swp_skip ?_
            simp only [thn, inBlk]
            refine hK38 _ ?_; clear hK38
            refine swp_seq fun K41 hK41 => ?_
            refine swp_block ?_
            refine swp_seq fun K42 hK42 => ?_
            have hbc : bnd (offs rate false) (i : Nat) = b := bnd_at hO (by omega) (by omega) (by omega)
            have hw1 : IntKind.i64.wrap ((w : Int) * 256) = (w : Int) * 256 := w64 (by omega)
            have hw2 : IntKind.i64.wrap ((w : Int) * 256 + (i : Nat)) = ((w * 256 + i : Nat) : Int) := by rw [w64 (by omega)]; push_cast; rfl
            have hil2 : w * 256 + i < 256 := by omega
            have hti : ((w : Int) * 256 + (i : Int)).toNat = w * 256 + i := by omega
            refine swp_draw ty_ok mixed (ms := [0, 1, 0, 0, 8, 24, 60, 0, 252, 511, 1023, 2047]) (by kernel_rfl) ?_
            refine runD_cut 5 fun R43 hR43 => ?_
            try simp (maxSteps := 1000000) [wdN, hneg0, hss, hw1, hw2, hti, List.take_succ_cons, List.take_zero, List.drop_succ_cons, List.drop_zero]
            repeat' (first | apply And.intro | intro _)
            any_goals (first | (refine hR43 _ _ _ _ ?_; clear hR43) | (first | omega | (simp only [IntKind.wrap_i64] at *; omega) | (simp_all; done) | (simp_all; omega)))
            refine runD_cut 1 fun R44 hR44 => ?_
            try simp (maxSteps := 1000000) [wdN, hneg0, hss, hw1, hw2, hti, List.take_succ_cons, List.take_zero, List.drop_succ_cons, List.drop_zero]
            refine .inl ⟨_, wide_ok s sh m g, ?_⟩
            try simp (maxSteps := 1000000) [wdN, hneg0, hss, hw1, hw2, hti]
            repeat' (first | apply And.intro | intro _)
            any_goals (first | (refine hR44 _ _ _ _ ?_; clear hR44) | (first | omega | (simp only [IntKind.wrap_i64] at *; omega) | (simp_all; done) | (simp_all; omega)))
            try simp (maxSteps := 1000000) [wdN, hneg0, hss, hw1, hw2, hti, List.take_succ_cons, List.take_zero, List.drop_succ_cons, List.drop_zero]
            repeat' (first | apply And.intro | intro _)
            any_goals (first | kernel_rfl | (refine hK42 _ ?_; clear hK42) | (first | omega | (simp only [IntKind.wrap_i64] at *; omega) | (simp_all; done) | (simp_all; omega)))
            refine swp_seq fun K46 hK46 => ?_
            have hng : IntKind.i64.wrap (-(gr ((bkR (se[(grp g (w : Nat))]?.getD []))[b]?.getD 0))) = -(gr ((bkR (se[(grp g (w : Nat))]?.getD []))[b]?.getD 0)) := w64 (by have := gr_bd ((bkR (se[(grp g (w : Nat))]?.getD []))[b]?.getD 0); omega)
            refine swp_region ty_ok ?_
            try simp (maxSteps := 1000000) [wdN, hneg0, hss, hng]
            repeat' (first | apply And.intro | intro _)
            any_goals (first | (refine hK46 _ ?_; clear hK46) | (first | omega | (simp only [IntKind.wrap_i64] at *; omega) | (simp_all; done) | (simp_all; omega)))
            refine swp_if fun C47 hC47 => ?_
            try simp (maxSteps := 1000000) [wdN, hneg0, hss, hng]
            refine hC47 _ (fun hc47 => ?_) (fun hc47 => ?_)
            · clear hC47
              try simp at hc47
              refine swp_seq fun K48 hK48 => ?_
              refine swp_region ty_ok ?_
              try simp (maxSteps := 1000000) [wdN, hneg0, hss]
              repeat' (first | apply And.intro | intro _)
              any_goals (first | (refine hK48 _ ?_; clear hK48) | (first | omega | (simp only [IntKind.wrap_i64] at *; omega) | (simp_all; done) | (simp_all; omega)))
              refine swp_ret ?_
              simp [fnPost, Try.results104, resP, tupOf]
              exact linB_bad (w := w) (i := i) (by omega) (by omega) (okV_out hbc (by omega) hbk (by omega) hc47)
            · clear hC47
              try simp at hc47
              refine swp_skip ?_
              simp only [thn, inBlk]
              refine hK41 _ ?_; clear hK41
              refine swp_region ty_ok ?_
              try simp (maxSteps := 1000000) [wdN, hneg0, hss]
              repeat' apply And.intro
              any_goals (try omega)
              refine hL37 _ ⟨[(3, .ptr 0 0 0 1), (5, .ro (.ints .i64 (offs rate false))), (6, .ro (.ints .i64 (inL 0 g))), (7, .int .i64 (w : Nat)), (8, .ro (.ints .i64 (bkR (se[(grp g (w : Nat))]?.getD [])))), (9, .int .i64 (b : Nat)), (10, .int .i64 (gr ((bkR (se[(grp g (w : Nat))]?.getD []))[b]?.getD 0))), (11, .int .i64 ((i + 1) : Nat))], [(0, some ⟨.rows 9 [[.int .i64 ga, .int .u8 s, .int .u8 sh, .int .i64 m, .ro (.ints .i64 g), .ro (.rows 1 (se.map fun w => [.ro (.rows 2 (w.map Sc.row))])), .ro (.rows 1 (st.map fun w => [.ro (.ints .i64 w)])), .ro (.rows 1 (tn.map fun w => [.ro (.rows 5 (w.map Fl.row))])), .ro (.ints .i64 ln)]], true, 29⟩)], 1⟩ _ ?_ ⟨(i + 1), by (push_cast; omega), by (push_cast; omega), by (refine lt_step (by assumption) ?_; first | exact okV_mem hbc (by omega) hbk (by omega) hc47 | exact okV_z (by have := hc47; omega)), rfl, rfl⟩ ⟨by simp [getT, PV.lo, lo1, hiw], by simp [getH, Blk.lo, Cells.lo, lo1], rfl, by omega⟩
              omega
          · clear hC40
            try simp at hc40
            refine swp_exit ?_
            simp [thn, inBlk]
            refine hK28 _ ?_; clear hK28
            refine swp_region ty_ok ?_
            try simp (maxSteps := 1000000) [wdN, hneg0, hss]
            repeat' apply And.intro
            any_goals (try omega)
            refine hL24 _ ⟨[(3, .ptr 0 0 0 1), (5, .ro (.ints .i64 (offs rate false))), (6, .ro (.ints .i64 (inL 0 g))), (7, .int .i64 (w : Nat)), (8, .ro (.ints .i64 (bkR (se[(grp g (w : Nat))]?.getD [])))), (9, .int .i64 ((b + 1) : Nat))], [(0, some ⟨.rows 9 [[.int .i64 ga, .int .u8 s, .int .u8 sh, .int .i64 m, .ro (.ints .i64 g), .ro (.rows 1 (se.map fun w => [.ro (.rows 2 (w.map Sc.row))])), .ro (.rows 1 (st.map fun w => [.ro (.ints .i64 w)])), .ro (.rows 1 (tn.map fun w => [.ro (.rows 5 (w.map Fl.row))])), .ro (.ints .i64 ln)]], true, 29⟩)], 1⟩ _ ?_ ⟨(b + 1), by omega, by (intro j hj; exact (by assumption : ∀ j < i, okV (offs rate false) se m (grp g (w : Nat) : Nat) (j : Nat) (ln[w * 256 + j]?.getD 0) = true) j (by omega)), rfl, rfl⟩ ⟨by simp [getT, PV.lo, lo1, hbw], by simp [getH, Blk.lo, Cells.lo, lo1], rfl, by omega⟩
            omega
        · clear hC33
          try simp at hc33
          refine swp_skip ?_
          simp only [thn, inBlk]
          refine hK30 _ ?_; clear hK30
          refine swp_seq fun K49 hK49 => ?_
          have hob : ((((offs rate false)[b]?.getD 0).toNat : Nat) : Int) = (offs rate false)[b]?.getD 0 := by have := hO.mono (b := b) (by omega) 0 (by omega); omega
          try have hcc2 := hc33
          have hbkx : (b : Int) < m → (bkG se (grp g (w : Nat) : Nat) (b : Nat)).1 = ((bkR (se[(grp g (w : Nat))]?.getD []))[b]?.getD 0) := fun hlt => by rw [bkR_at hb1 (by omega)]; unfold bkG; rw [if_neg (by omega)]; simp
          refine swp_region ty_ok ?_
          try simp (maxSteps := 1000000) [wdN, hneg0, hss]
          repeat' (first | apply And.intro | intro _)
          any_goals (first | (refine hK49 _ ?_; clear hK49) | (first | omega | (simp only [IntKind.wrap_i64] at *; omega) | (simp_all; done) | (simp_all; omega)))
          refine swp_block ?_
          have hob2 := hO.mono (b := b + 1) (by omega) b (by omega)
          have hol2 := hO.mono (b := (offs rate false).length - 1) (by omega) (b + 1) (by omega)
          rw [hol] at hol2
          refine swp_loop 1 (fun m_ s_ => ∃ (i : Nat), ((offs rate false)[b]?.getD 0 ≤ (i : Int)) ∧ ((i : Int) ≤ (offs rate false)[b + 1]?.getD 0) ∧ (∀ j < i, okV (offs rate false) se m (grp g (w : Nat) : Nat) (j : Nat) (ln[w * 256 + j]?.getD 0) = true) ∧ s_ = ⟨[(3, .ptr 0 0 0 1), (5, .ro (.ints .i64 (offs rate false))), (6, .ro (.ints .i64 (inL 0 g))), (7, .int .i64 (w : Nat)), (8, .ro (.ints .i64 (bkR (se[(grp g (w : Nat))]?.getD [])))), (9, .int .i64 (b : Nat)), (10, .int .i64 0), (11, .int .i64 (i : Nat))], [(0, some ⟨.rows 9 [[.int .i64 ga, .int .u8 s, .int .u8 sh, .int .i64 m, .ro (.ints .i64 g), .ro (.rows 1 (se.map fun w => [.ro (.rows 2 (w.map Sc.row))])), .ro (.rows 1 (st.map fun w => [.ro (.ints .i64 w)])), .ro (.rows 1 (tn.map fun w => [.ro (.rows 5 (w.map Fl.row))])), .ro (.ints .i64 ln)]], true, 29⟩)], 1⟩ ∧ m_ = ((offs rate false)[b + 1]?.getD 0).toNat - i) _ ⟨[(3, .ptr 0 0 0 1), (5, .ro (.ints .i64 (offs rate false))), (6, .ro (.ints .i64 (inL 0 g))), (7, .int .i64 (w : Nat)), (8, .ro (.ints .i64 (bkR (se[(grp g (w : Nat))]?.getD [])))), (9, .int .i64 (b : Nat)), (10, .int .i64 0), (11, .int .i64 (((offs rate false)[b]?.getD 0).toNat : Nat))], [(0, some ⟨.rows 9 [[.int .i64 ga, .int .u8 s, .int .u8 sh, .int .i64 m, .ro (.ints .i64 g), .ro (.rows 1 (se.map fun w => [.ro (.rows 2 (w.map Sc.row))])), .ro (.rows 1 (st.map fun w => [.ro (.ints .i64 w)])), .ro (.rows 1 (tn.map fun w => [.ro (.rows 5 (w.map Fl.row))])), .ro (.ints .i64 ln)]], true, 29⟩)], 1⟩ ⟨by (simp [getT, PV.lo, lo1]; omega), by simp [getH, Blk.lo, Cells.lo, lo1], rfl, by omega⟩ ⟨(((offs rate false)[b]?.getD 0).toNat), by omega, by omega, by (intro j hj; exact (by assumption : ∀ j : Nat, (j : Int) < (offs rate false)[b]?.getD 0 → okV (offs rate false) se m (grp g (w : Nat) : Nat) (j : Nat) (ln[w * 256 + j]?.getD 0) = true) j (by omega)), rfl, rfl⟩ ?_
          rintro m_ s_ ⟨i, hL50_0, hL50_1, hL50_2, rfl, rfl⟩ KL50 hL50
          have hiw : IntKind.i64.wrap ((i : Int) + 1) = (((i + 1 : Nat)) : Int) := wnext (by omega)
          refine swp_seq fun K51 hK51 => ?_
          refine swp_seq fun K52 hK52 => ?_
          have hbt : (((b : Nat) : Int) + 1).toNat = b + 1 := by omega
          refine swp_region ty_ok ?_
          try simp (maxSteps := 1000000) [wdN, hneg0, hss, hbw1]
          repeat' (first | apply And.intro | intro _)
          any_goals (first | (refine hK52 _ ?_; clear hK52) | (first | omega | (simp only [IntKind.wrap_i64] at *; omega) | (simp_all; done) | (simp_all; omega)))
          refine swp_if fun C53 hC53 => ?_
          try simp (maxSteps := 1000000) [wdN, hneg0, hss, hbw1]
          refine hC53 _ (fun hc53 => ?_) (fun hc53 => ?_)
          · clear hC53
            try simp at hc53
            refine swp_skip ?_
            simp only [thn, inBlk]
            refine hK51 _ ?_; clear hK51
            refine swp_seq fun K54 hK54 => ?_
            refine swp_block ?_
            refine swp_seq fun K55 hK55 => ?_
            have hbc : bnd (offs rate false) (i : Nat) = b := bnd_at hO (by omega) (by omega) (by omega)
            have hw1 : IntKind.i64.wrap ((w : Int) * 256) = (w : Int) * 256 := w64 (by omega)
            have hw2 : IntKind.i64.wrap ((w : Int) * 256 + (i : Nat)) = ((w * 256 + i : Nat) : Int) := by rw [w64 (by omega)]; push_cast; rfl
            have hil2 : w * 256 + i < 256 := by omega
            have hti : ((w : Int) * 256 + (i : Int)).toNat = w * 256 + i := by omega
            refine swp_draw ty_ok mixed (ms := [0, 1, 0, 0, 8, 24, 60, 0, 252, 511, 1023, 2047]) (by kernel_rfl) ?_
            refine runD_cut 5 fun R56 hR56 => ?_
            try simp (maxSteps := 1000000) [wdN, hneg0, hss, hw1, hw2, hti, List.take_succ_cons, List.take_zero, List.drop_succ_cons, List.drop_zero]
            repeat' (first | apply And.intro | intro _)
            any_goals (first | (refine hR56 _ _ _ _ ?_; clear hR56) | (first | omega | (simp only [IntKind.wrap_i64] at *; omega) | (simp_all; done) | (simp_all; omega)))
            refine runD_cut 1 fun R57 hR57 => ?_
            try simp (maxSteps := 1000000) [wdN, hneg0, hss, hw1, hw2, hti, List.take_succ_cons, List.take_zero, List.drop_succ_cons, List.drop_zero]
            refine .inl ⟨_, wide_ok s sh m g, ?_⟩
            try simp (maxSteps := 1000000) [wdN, hneg0, hss, hw1, hw2, hti]
            repeat' (first | apply And.intro | intro _)
            any_goals (first | (refine hR57 _ _ _ _ ?_; clear hR57) | (first | omega | (simp only [IntKind.wrap_i64] at *; omega) | (simp_all; done) | (simp_all; omega)))
            try simp (maxSteps := 1000000) [wdN, hneg0, hss, hw1, hw2, hti, List.take_succ_cons, List.take_zero, List.drop_succ_cons, List.drop_zero]
            repeat' (first | apply And.intro | intro _)
            any_goals (first | kernel_rfl | (refine hK55 _ ?_; clear hK55) | (first | omega | (simp only [IntKind.wrap_i64] at *; omega) | (simp_all; done) | (simp_all; omega)))
            refine swp_seq fun K59 hK59 => ?_
            have hng : IntKind.i64.wrap (-(gr ((bkR (se[(grp g (w : Nat))]?.getD []))[b]?.getD 0))) = -(gr ((bkR (se[(grp g (w : Nat))]?.getD []))[b]?.getD 0)) := w64 (by have := gr_bd ((bkR (se[(grp g (w : Nat))]?.getD []))[b]?.getD 0); omega)
            refine swp_region ty_ok ?_
            try simp (maxSteps := 1000000) [wdN, hneg0, hss, hng]
            repeat' (first | apply And.intro | intro _)
            any_goals (first | (refine hK59 _ ?_; clear hK59) | (first | omega | (simp only [IntKind.wrap_i64] at *; omega) | (simp_all; done) | (simp_all; omega)))
            refine swp_if fun C60 hC60 => ?_
            try simp (maxSteps := 1000000) [wdN, hneg0, hss, hng]
            refine hC60 _ (fun hc60 => ?_) (fun hc60 => ?_)
            · clear hC60
              try simp at hc60
              refine swp_seq fun K61 hK61 => ?_
              refine swp_region ty_ok ?_
              try simp (maxSteps := 1000000) [wdN, hneg0, hss]
              repeat' (first | apply And.intro | intro _)
              any_goals (first | (refine hK61 _ ?_; clear hK61) | (first | omega | (simp only [IntKind.wrap_i64] at *; omega) | (simp_all; done) | (simp_all; omega)))
              refine swp_ret ?_
              simp [fnPost, Try.results104, resP, tupOf]
              exact linB_bad (w := w) (i := i) (by omega) (by omega) (okV_nz hbc (fun h1 h2 => by rw [hbkx h1] at h2 ⊢; exact hcc2 (by omega) h2) (by have := hc60; omega))
            · clear hC60
              try simp at hc60
              refine swp_skip ?_
              simp only [thn, inBlk]
              refine hK54 _ ?_; clear hK54
              refine swp_region ty_ok ?_
              try simp (maxSteps := 1000000) [wdN, hneg0, hss]
              repeat' apply And.intro
              any_goals (try omega)
              refine hL50 _ ⟨[(3, .ptr 0 0 0 1), (5, .ro (.ints .i64 (offs rate false))), (6, .ro (.ints .i64 (inL 0 g))), (7, .int .i64 (w : Nat)), (8, .ro (.ints .i64 (bkR (se[(grp g (w : Nat))]?.getD [])))), (9, .int .i64 (b : Nat)), (10, .int .i64 0), (11, .int .i64 ((i + 1) : Nat))], [(0, some ⟨.rows 9 [[.int .i64 ga, .int .u8 s, .int .u8 sh, .int .i64 m, .ro (.ints .i64 g), .ro (.rows 1 (se.map fun w => [.ro (.rows 2 (w.map Sc.row))])), .ro (.rows 1 (st.map fun w => [.ro (.ints .i64 w)])), .ro (.rows 1 (tn.map fun w => [.ro (.rows 5 (w.map Fl.row))])), .ro (.ints .i64 ln)]], true, 29⟩)], 1⟩ _ ?_ ⟨(i + 1), by (push_cast; omega), by (push_cast; omega), by (refine lt_step (by assumption) ?_; first | exact okV_mem hbc (by omega) hbk (by omega) hc60 | exact okV_z (by have := hc60; omega)), rfl, rfl⟩ ⟨by simp [getT, PV.lo, lo1, hiw], by simp [getH, Blk.lo, Cells.lo, lo1], rfl, by omega⟩
              omega
          · clear hC53
            try simp at hc53
            refine swp_exit ?_
            simp [thn, inBlk]
            refine hK28 _ ?_; clear hK28
            refine swp_region ty_ok ?_
            try simp (maxSteps := 1000000) [wdN, hneg0, hss]
            repeat' apply And.intro
            any_goals (try omega)
            refine hL24 _ ⟨[(3, .ptr 0 0 0 1), (5, .ro (.ints .i64 (offs rate false))), (6, .ro (.ints .i64 (inL 0 g))), (7, .int .i64 (w : Nat)), (8, .ro (.ints .i64 (bkR (se[(grp g (w : Nat))]?.getD [])))), (9, .int .i64 ((b + 1) : Nat))], [(0, some ⟨.rows 9 [[.int .i64 ga, .int .u8 s, .int .u8 sh, .int .i64 m, .ro (.ints .i64 g), .ro (.rows 1 (se.map fun w => [.ro (.rows 2 (w.map Sc.row))])), .ro (.rows 1 (st.map fun w => [.ro (.ints .i64 w)])), .ro (.rows 1 (tn.map fun w => [.ro (.rows 5 (w.map Fl.row))])), .ro (.ints .i64 ln)]], true, 29⟩)], 1⟩ _ ?_ ⟨(b + 1), by omega, by (intro j hj; exact (by assumption : ∀ j < i, okV (offs rate false) se m (grp g (w : Nat) : Nat) (j : Nat) (ln[w * 256 + j]?.getD 0) = true) j (by omega)), rfl, rfl⟩ ⟨by simp [getT, PV.lo, lo1, hbw], by simp [getH, Blk.lo, Cells.lo, lo1], rfl, by omega⟩
            omega
      · clear hC27
        try simp at hc27
        refine swp_exit ?_
        simp [thn, inBlk]
        refine hK18 _ ?_; clear hK18
        refine swp_region ty_ok ?_
        try simp (maxSteps := 1000000) [wdN, hneg0, hss]
        repeat' apply And.intro
        any_goals (try omega)
        refine hL14 _ ⟨[(3, .ptr 0 0 0 1), (5, .ro (.ints .i64 (offs rate false))), (6, .ro (.ints .i64 (inL 0 g))), (7, .int .i64 ((w + 1) : Nat))], [(0, some ⟨.rows 9 [[.int .i64 ga, .int .u8 s, .int .u8 sh, .int .i64 m, .ro (.ints .i64 g), .ro (.rows 1 (se.map fun w => [.ro (.rows 2 (w.map Sc.row))])), .ro (.rows 1 (st.map fun w => [.ro (.ints .i64 w)])), .ro (.rows 1 (tn.map fun w => [.ro (.rows 5 (w.map Fl.row))])), .ro (.ints .i64 ln)]], true, 29⟩)], 1⟩ _ ?_ ⟨(w + 1), by omega, by (refine lt_step (by assumption) (range_all fun j hj => ?_); exact (by assumption : ∀ j : Nat, (j : Int) < (offs rate false)[b]?.getD 0 → okV (offs rate false) se m (grp g (w : Nat) : Nat) (j : Nat) (ln[w * 256 + j]?.getD 0) = true) j (by rw [show b = (offs rate false).length - 1 by omega, hol]; omega)), rfl, rfl⟩ ⟨by simp [getT, PV.lo, lo1, hww], by simp [getH, Blk.lo, Cells.lo, lo1], rfl, by omega⟩
        omega
    · clear hC17
      try simp at hc17
      refine swp_exit ?_
      simp [thn, inBlk]
      refine hK12 _ ?_; clear hK12
      refine swp_seq fun K62 hK62 => ?_
      refine swp_region ty_ok ?_
      try simp (maxSteps := 1000000) [wdN, hneg0, hss]
      repeat' (first | apply And.intro | intro _)
      any_goals (first | (refine hK62 _ ?_; clear hK62) | (first | omega | (simp only [IntKind.wrap_i64] at *; omega) | (simp_all; done) | (simp_all; omega)))
      refine swp_ret ?_
      simp [fnPost, Try.results104, resP, tupOf]
      exact linB_ok (w := w) (by omega) (by omega) (by assumption)

end Go.Proofs.Ytmkgfgdipkagbaa

