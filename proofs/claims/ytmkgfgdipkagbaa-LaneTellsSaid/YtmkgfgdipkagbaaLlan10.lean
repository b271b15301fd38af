import Derived.Test.YtmkgfgdipkagbaaWb
import Derived.Test.YtmkgfgdipkagbaaTyl
import Derived.Test.YtmkgfgdipkagbaaPvy
import Derived.Test.YtmkgfgdipkagbaaLband
import Derived.Test.YtmkgfgdipkagbaaLinfo
import Derived.Test.YtmkgfgdipkagbaaLinfo2
import Derived.Test.YtmkgfgdipkagbaaLbits
import Derived.Test.YtmkgfgdipkagbaaLtns
import Derived.Test.YtmkgfgdipkagbaaLtnp
import Derived.Test.YtmkgfgdipkagbaaLtnl
import Derived.Test.YtmkgfgdipkagbaaLlan
import Derived.Test.YtmkgfgdipkagbaaLlan2
import Derived.Test.YtmkgfgdipkagbaaLlan3
import Derived.Test.YtmkgfgdipkagbaaLlan4
import Derived.Test.YtmkgfgdipkagbaaLlan5
import Derived.Test.YtmkgfgdipkagbaaLlan8
namespace Go.Proofs.Ytmkgfgdipkagbaa
set_option linter.unusedVariables false
set_option linter.unusedSimpArgs false
set_option maxRecDepth 10000
open Go Go.Pv


open Go.RowKit
def absI (n : Int) : Int := if n < 0 then -n else n
theorem far_near {a b : Int} : decide (60 < absI (a - b)) = !nearB a b := by
  unfold absI nearB
  rw [Bool.eq_iff_iff]
  simp
  split <;> omega
def bkR (l : List Sc) : List Int := l.flatMap fun x => List.replicate x.len.toNat x.book
theorem bkR_succ {l : List Sc} {i : Nat} (h : i < l.length) : bkR (l.take (i + 1)) = bkR (l.take i) ++ List.replicate (l[i]?.getD default).len.toNat (l[i]?.getD default).book := by
  unfold bkR
  rw [List.take_succ_eq_append_getElem h, List.flatMap_append, List.getElem?_eq_getElem h]
  simp
theorem bkR_len : ∀ {l : List Sc}, (∀ x ∈ l, badS x = false) → ((bkR l).length : Int) = (l.map Sc.len).sum
  | [], _ => rfl
  | x :: r, h => by
    have h1 := badS_no (h x (by simp))
    have h2 := bkR_len (l := r) fun y hy => h y (List.mem_cons_of_mem x hy)
    unfold bkR at h2 ⊢
    simp only [List.flatMap_cons, List.length_append, List.length_replicate, List.map_cons, List.sum_cons]
    omega
theorem bkR_at : ∀ {l : List Sc}, (∀ x ∈ l, badS x = false) → ∀ {b : Nat}, b < (bkR l).length → (bkR l)[b]?.getD 0 = (bkL l b).1
  | [], _, b, hb => by simp [bkR] at hb
  | x :: r, h, b, hb => by
    have h1 := badS_no (h x (by simp))
    have hr : ∀ y ∈ r, badS y = false := fun y hy => h y (by simp [hy])
    have e : bkR (x :: r) = List.replicate x.len.toNat x.book ++ bkR r := rfl
    rw [e] at hb ⊢
    rw [bkL, if_neg (by omega)]
    by_cases hc : (b : Int) < x.len
    · rw [if_pos hc, List.getElem?_append_left (by rw [List.length_replicate]; omega), List.getElem?_replicate, if_pos (by omega)]
      rfl
    · rw [List.length_append, List.length_replicate] at hb
      rw [if_neg hc, List.getElem?_append_right (by rw [List.length_replicate]; omega), List.length_replicate, bkR_at hr (b := b - x.len.toNat) (by omega)]
      congr 2
      omega
theorem len_sum : ∀ (ws : List Sc), (∀ x ∈ ws, badS x = false) → (ws.length : Int) ≤ (ws.map Sc.len).sum
  | [], _ => by simp
  | x :: r, h => by
    have h1 := badS_no (h x (by simp))
    have h2 := len_sum r fun y hy => h y (by simp [hy])
    simp only [List.length_cons, List.map_cons, List.sum_cons]
    omega
theorem lenS_mono {l : List Sc} (h : ∀ x ∈ l, badS x = false) {k : Nat} (hk : k ≤ l.length) : lenS l k ≤ (l.map Sc.len).sum := by
  have h1 : l = l.take k ++ l.drop k := (List.take_append_drop k l).symm
  have h2 : (l.map Sc.len).sum = lenS l k + ((l.drop k).map Sc.len).sum := by
    conv => lhs; rw [h1]
    rw [List.map_append, List.sum_append]
    rfl
  have h3 := len_sum (l.drop k) fun x hx => h x (List.mem_of_mem_drop hx)
  omega
theorem secL_true {m : Int} {l : List Sc} (h : secL m l = true) : (∀ x ∈ l, badS x = false) ∧ (l.map Sc.len).sum = m ∧ l.length ≤ 40 := by
  unfold secL lenS at h
  rw [List.take_length, Bool.and_eq_true, Bool.and_eq_true, decide_eq_true_eq, decide_eq_true_eq, Bool.not_eq_true', List.any_eq_false] at h
  exact ⟨fun x hx => by simpa using h.1 x hx, h.2⟩
theorem secL_mk {m : Int} {l : List Sc} {k : Nat} (hm : m ≤ 40) (hk : l.length ≤ k) (h : ∀ j < k, badS (l[j]?.getD default) = false) (hs : lenS l k = m) : secL m l = true := by
  have hb : ∀ x ∈ l, badS x = false := fun x hx => by
    obtain ⟨j, hj, rfl⟩ := List.getElem_of_mem hx
    have := h j (by omega)
    rwa [List.getElem?_eq_getElem hj] at this
  refine secL_yes hk h hs ?_
  have h1 := len_sum l hb
  have h2 : (l.map Sc.len).sum = m := by rw [← hs]; unfold lenS; rw [List.take_of_length_le hk]
  omega
theorem secL_over {m : Int} {l : List Sc} {k : Nat} (hk : k < l.length) (h : (((((l[k]?.getD default).len < 1 ∨ m - lenS l k < (l[k]?.getD default).len) ∨ (l[k]?.getD default).book < 0) ∨ (l[k]?.getD default).book = 12) ∨ 13 < (l[k]?.getD default).book)) : secL m l = false := by
  cases hs : secL m l with
  | false => rfl
  | true =>
    obtain ⟨h1, h2, h3⟩ := secL_true hs
    have h4 := badS_no (h1 _ (mem_at (w := l) (j := k) hk))
    have h5 := lenS_mono h1 (k := k + 1) (by omega)
    rw [lenS_succ l k hk] at h5
    omega
theorem badS_mk {x : Sc} {left : Int} (h : (((1 ≤ x.len ∧ x.len ≤ left) ∧ 0 ≤ x.book) ∧ ¬ x.book = 12) ∧ x.book ≤ 13) (hl : left ≤ 40) : badS x = false := by
  unfold badS
  simp
  omega
def nzI (z : Zs) : Int := if z.on = true then z.noise else -1
theorem nzI_on {z : Zs} (hz : ZOk z) : 0 ≤ nzI z ↔ z.on = true := by
  unfold nzI
  obtain ⟨h1, h2, h3⟩ := hz
  split
  · next h => exact ⟨fun _ => h, fun _ => h2⟩
  · next h => exact ⟨fun h' => by omega, fun h' => absurd h' h⟩
theorem nzI_n {z : Zs} (h : z.on = true) : nzI z = z.noise := if_pos h
theorem bk_nn {l : List Sc} (h : ∀ x ∈ l, badS x = false) {j : Nat} {v : Int} (hv : (bkR l)[j]?.getD 0 = v) : 0 ≤ v := by
  subst hv
  by_cases hj : j < (bkR l).length
  · have : (bkR l)[j] ∈ bkR l := List.getElem_mem hj
    unfold bkR at this
    obtain ⟨x, hx, h2⟩ := List.mem_flatMap.1 this
    have h3 := badS_no (h x hx)
    have h4 := (List.mem_replicate.1 h2).2
    rw [List.getElem?_eq_getElem hj, Option.getD_some]
    show 0 ≤ (bkR l)[j]
    unfold bkR
    rw [h4]
    omega
  · rw [List.getElem?_eq_none (by omega)]
    exact Int.le_refl _
theorem far_n {y : Zs} {n : Int} (hon : 0 ≤ nzI y ↔ y.on = true) (h : (n < 0 ∨ 511 < n) ∨ 0 ≤ nzI y ∧ nearB (nzI y) n = false) : (n < 0 ∨ 511 < n) ∨ y.on = true ∧ nearB y.noise n = false := by
  rcases h with h | ⟨h1, h2⟩
  · exact .inl h
  · have h3 := hon.1 h1
    rw [nzI_n h3] at h2
    exact .inr ⟨h3, h2⟩
theorem far_y {y : Zs} {n : Int} (hon : 0 ≤ nzI y ↔ y.on = true) (h : (0 ≤ n ∧ n ≤ 511) ∧ (0 ≤ nzI y → nearB (nzI y) n = true)) : (0 ≤ n ∧ n ≤ 511) ∧ (y.on = true → nearB y.noise n = true) :=
  ⟨h.1, fun h3 => by have := h.2 (hon.2 h3); rwa [nzI_n h3] at this⟩

attribute [local simp] runs gd step1 need evu un opnds opv ev cst cst1 cstL getT getH putT onL nxt argT cellsOf PV.one thn inBlk jmp fldP ldP ldC live Cells.len Cells.get Cells.w sug ldv bin eqF eq1 ops2 sh2 binv Tk.agg stC apC rdS apS mvL zp argsP idx fillP toInts chunks mkC ixS ixA oidx slP sl0 mxF bltn frzA frz frzL frz1 pur1 Cells.pur PV.scal scal1 runD rdO PV.ids id1 zids ety Eff.on cnd minb and1b ifmax ifmin mxv sugI strv w0 w1 w2 wm1
theorem reedpiperef09_Abs_ok (n : Int) (h : -1000000 ≤ n ∧ n ≤ 1000000) : PCall Try.prog 121 [.int .i64 n] (.int .i64 (absI n)) := by
  have hneg : IntKind.i64.wrap (-n) = -n := w64 (by omega)
  refine pcall_body ty_ok Try.func121 rfl (by rfl) (by simp) ?_
  rw [Try.ntmps121]
  refine swp_seq fun K1 hK1 => ?_
  refine swp_region ty_ok ?_
  try simp (maxSteps := 1000000) [hneg]
  repeat' (first | apply And.intro | intro _)
  any_goals (first | (refine hK1 _ ?_; clear hK1) | (first | omega | (simp only [IntKind.wrap_i64] at *; omega) | (simp_all; done) | (simp_all; omega)))
  refine swp_seq fun K2 hK2 => ?_
  refine swp_seq fun K3 hK3 => ?_
  refine swp_region ty_ok ?_
  try simp (maxSteps := 1000000) [hneg]
  repeat' (first | apply And.intro | intro _)
  any_goals (first | (refine hK3 _ ?_; clear hK3) | (first | omega | (simp only [IntKind.wrap_i64] at *; omega) | (simp_all; done) | (simp_all; omega)))
  refine swp_if fun C4 hC4 => ?_
  try simp (maxSteps := 1000000) [hneg]
  refine hC4 _ (fun hc4 => ?_) (fun hc4 => ?_)
  · clear hC4
    try simp at hc4
    refine swp_seq fun K5 hK5 => ?_
    refine swp_region ty_ok ?_
    try simp (maxSteps := 1000000) [hneg]
    repeat' (first | apply And.intro | intro _)
    any_goals (first | (refine hK5 _ ?_; clear hK5) | (first | omega | (simp only [IntKind.wrap_i64] at *; omega) | (simp_all; done) | (simp_all; omega)))
    refine swp_ret ?_
    simp [fnPost, Try.results121, resP, tupOf]
    rw [absI, if_pos (by assumption)]
  · clear hC4
    try simp at hc4
    refine swp_skip ?_
    simp only [thn, inBlk]
    refine hK2 _ ?_; clear hK2
    refine swp_seq fun K6 hK6 => ?_
    refine swp_region ty_ok ?_
    try simp (maxSteps := 1000000) [hneg]
    repeat' (first | apply And.intro | intro _)
    any_goals (first | (refine hK6 _ ?_; clear hK6) | (first | omega | (simp only [IntKind.wrap_i64] at *; omega) | (simp_all; done) | (simp_all; omega)))
    refine swp_ret ?_
    simp [fnPost, Try.results121, resP, tupOf]
    rw [absI, if_neg (by omega)]

theorem far_ok (a b : Int) (ha : -1000 ≤ a ∧ a ≤ 1000) (hb : -1000 ≤ b ∧ b ≤ 1000) : PCall Try.prog 111 [.int .i64 a, .int .i64 b] (.bool (!nearB a b)) := by
  have hsub : IntKind.i64.wrap (a - b) = a - b := w64 (by omega)
  refine pcall_body ty_ok Try.func111 rfl (by rfl) (by simp) ?_
  rw [Try.ntmps111]
  refine swp_seq fun K1 hK1 => ?_
  refine swp_region ty_ok ?_
  try simp (maxSteps := 1000000) [hsub]
  repeat' (first | apply And.intro | intro _)
  any_goals (first | (refine hK1 _ ?_; clear hK1) | (first | omega | (simp only [IntKind.wrap_i64] at *; omega) | (simp_all; done) | (simp_all; omega)))
  refine swp_seq fun K2 hK2 => ?_
  refine swp_region ty_ok ?_
  refine runs_cut 3 fun R3 hR3 => ?_
  try simp (maxSteps := 1000000) [hsub, List.take_succ_cons, List.take_zero, List.drop_succ_cons, List.drop_zero]
  repeat' (first | apply And.intro | intro _)
  any_goals (first | (refine hR3 _ ?_; clear hR3) | (first | omega | (simp only [IntKind.wrap_i64] at *; omega) | (simp_all; done) | (simp_all; omega)))
  refine runs_cut 1 fun R4 hR4 => ?_
  try simp (maxSteps := 1000000) [hsub, List.take_succ_cons, List.take_zero, List.drop_succ_cons, List.drop_zero]
  refine .inl ⟨_, reedpiperef09_Abs_ok (a - b) (by omega), ?_⟩
  try simp (maxSteps := 1000000) [hsub]
  repeat' (first | apply And.intro | intro _)
  any_goals (first | (refine hR4 _ ?_; clear hR4) | (first | omega | (simp only [IntKind.wrap_i64] at *; omega) | (simp_all; done) | (simp_all; omega)))
  try simp (maxSteps := 1000000) [hsub, List.take_succ_cons, List.take_zero, List.drop_succ_cons, List.drop_zero]
  repeat' (first | apply And.intro | intro _)
  any_goals (first | (refine hK2 _ ?_; clear hK2) | (first | omega | (simp only [IntKind.wrap_i64] at *; omega) | (simp_all; done) | (simp_all; omega)))
  refine swp_ret ?_
  simp [fnPost, Try.results111, resP, tupOf]
  rw [far_near, Bool.not_not]

set_option maxHeartbeats 2000000 in
theorem books_ok (ws : List Sc) (hb : ∀ x ∈ ws, badS x = false) (hl : ws.length ≤ 40) : PCall Try.prog 110 [.ro (.rows 2 (ws.map Sc.row))] (.ro (.ints .i64 (bkR ws))) := by
  refine pcall_body ty_ok Try.func110 rfl (by rfl) (by simp) ?_
  rw [Try.ntmps110]
  refine swp_seq fun K1 hK1 => ?_
  refine swp_region ty_ok ?_
  try simp (maxSteps := 1000000)
  repeat' (first | apply And.intro | intro _)
  any_goals (first | (refine hK1 _ ?_; clear hK1) | (first | omega | (simp only [IntKind.wrap_i64] at *; omega) | (simp_all; done) | (simp_all; omega)))
  refine swp_seq fun K2 hK2 => ?_
  refine swp_region ty_ok ?_
  try simp (maxSteps := 1000000)
  repeat' (first | apply And.intro | intro _)
  any_goals (first | (refine hK2 _ ?_; clear hK2) | (first | omega | (simp only [IntKind.wrap_i64] at *; omega) | (simp_all; done) | (simp_all; omega)))
  refine swp_seq fun K3 hK3 => ?_
  refine swp_seq fun K4 hK4 => ?_
  refine swp_region ty_ok ?_
  try simp (maxSteps := 1000000)
  repeat' (first | apply And.intro | intro _)
  any_goals (first | (refine hK4 _ ?_; clear hK4) | (first | omega | (simp only [IntKind.wrap_i64] at *; omega) | (simp_all; done) | (simp_all; omega)))
  refine swp_block ?_
  refine swp_own 3 3 (by simp [getT]; rfl) rfl ?_
  refine swp_loop 1 (fun m_ s_ => ∃ (i : Nat), (i ≤ ws.length) ∧ ((bkR (ws.take i)).length ≤ 40 * i) ∧ s_ = ⟨[(0, .ro (.rows 2 (ws.map Sc.row))), (3, .sl 0 0 (bkR (ws.take i)).length (bkR (ws.take i)).length), (4, .int .i64 (i : Nat))], [(0, some ⟨.ints .i64 (bkR (ws.take i)), false, 3⟩)], 1⟩ ∧ m_ = ws.length - i) _ ⟨[(0, .ro (.rows 2 (ws.map Sc.row))), (3, .sl 0 0 (bkR (ws.take 0)).length (bkR (ws.take 0)).length), (4, .int .i64 (0 : Nat))], [(0, some ⟨.ints .i64 (bkR (ws.take 0)), false, 3⟩)], 1⟩ ⟨by simp [getT, PV.lo, lo1, bkR], by simp [getH, Blk.lo, Cells.lo, lo1, bkR], rfl, by omega⟩ ⟨(0), by omega, by simp [bkR], rfl, rfl⟩ ?_
  rintro m_ s_ ⟨i, hL5_0, hL5_1, rfl, rfl⟩ KL5 hL5
  have hiw : IntKind.i64.wrap ((i : Int) + 1) = (((i + 1 : Nat)) : Int) := wnext (by omega)
  refine swp_seq fun K6 hK6 => ?_
  refine swp_seq fun K7 hK7 => ?_
  refine swp_region ty_ok ?_
  try simp (maxSteps := 1000000)
  repeat' (first | apply And.intro | intro _)
  any_goals (first | (refine hK7 _ ?_; clear hK7) | (first | omega | (simp only [IntKind.wrap_i64] at *; omega) | (simp_all; done) | (simp_all; omega)))
  refine swp_if fun C8 hC8 => ?_
  try simp (maxSteps := 1000000)
  refine hC8 _ (fun hc8 => ?_) (fun hc8 => ?_)
  · clear hC8
    try simp at hc8
    refine swp_skip ?_
    simp only [thn, inBlk]
    refine hK6 _ ?_; clear hK6
    refine swp_seq fun K9 hK9 => ?_
    refine swp_block ?_
    refine swp_seq fun K10 hK10 => ?_
    refine swp_region ty_ok ?_
    try simp (maxSteps := 1000000)
    repeat' (first | apply And.intro | intro _)
    any_goals (first | (refine hK10 _ ?_; clear hK10) | (first | omega | (simp only [IntKind.wrap_i64] at *; omega) | (simp_all; done) | (simp_all; omega)))
    refine swp_block ?_
    have hbi := badS_no (hb _ (mem_at (w := ws) (j := i) (by omega)))
    have hbi2 : 1 ≤ (ws[i]?.getD default).len ∧ (ws[i]?.getD default).len ≤ 40 := hbi.1
    have hsu := bkR_succ (l := ws) (i := i) (by omega)
    refine swp_loop 1 (fun m_ s_ => ∃ (k : Nat), ((k : Int) ≤ (ws[i]?.getD default).len) ∧ s_ = ⟨[(0, .ro (.rows 2 (ws.map Sc.row))), (3, .sl 0 0 ((bkR (ws.take i)).length + k) ((bkR (ws.take i)).length + k)), (4, .int .i64 (i : Nat)), (5, .int .i64 (k : Nat))], [(0, some ⟨.ints .i64 (bkR (ws.take i) ++ List.replicate k (ws[i]?.getD default).book), false, 3⟩)], 1⟩ ∧ m_ = (ws[i]?.getD default).len.toNat - k) _ ⟨[(0, .ro (.rows 2 (ws.map Sc.row))), (3, .sl 0 0 ((bkR (ws.take i)).length + 0) ((bkR (ws.take i)).length + 0)), (4, .int .i64 (i : Nat)), (5, .int .i64 (0 : Nat))], [(0, some ⟨.ints .i64 (bkR (ws.take i) ++ List.replicate 0 (ws[i]?.getD default).book), false, 3⟩)], 1⟩ ⟨by simp [getT, PV.lo, lo1], by simp [getH, Blk.lo, Cells.lo, lo1], rfl, by omega⟩ ⟨(0), by (first | omega | (simp only [IntKind.wrap_i64] at *; omega) | (simp_all; done) | (simp_all; omega)), rfl, rfl⟩ ?_
    rintro m_ s_ ⟨k, hL11_0, rfl, rfl⟩ KL11 hL11
    have hkw : IntKind.i64.wrap ((k : Int) + 1) = (((k + 1 : Nat)) : Int) := wnext (by omega)
    refine swp_seq fun K12 hK12 => ?_
    refine swp_seq fun K13 hK13 => ?_
    have hri := sc_at (ws := ws) (k := i) (by omega)
    refine swp_region ty_ok ?_
    try simp (maxSteps := 1000000) [hri]
    repeat' (first | apply And.intro | intro _)
    any_goals (first | (refine hK13 _ ?_; clear hK13) | (first | omega | (simp only [IntKind.wrap_i64] at *; omega) | (simp_all; done) | (simp_all; omega)))
    refine swp_if fun C14 hC14 => ?_
    try simp (maxSteps := 1000000) [hri]
    refine hC14 _ (fun hc14 => ?_) (fun hc14 => ?_)
    · clear hC14
      try simp at hc14
      refine swp_skip ?_
      simp only [thn, inBlk]
      refine hK12 _ ?_; clear hK12
      refine swp_seq fun K15 hK15 => ?_
      refine swp_block ?_
      have hri := sc_at (ws := ws) (k := i) (by omega)
      refine swp_region ty_ok ?_
      refine runs_cut 6 fun R16 hR16 => ?_
      try simp (maxSteps := 1000000) [hri, List.take_succ_cons, List.take_zero, List.drop_succ_cons, List.drop_zero]
      repeat' (first | apply And.intro | intro _)
      any_goals (first | (refine hR16 _ ?_; clear hR16) | (first | omega | (simp only [IntKind.wrap_i64] at *; omega) | (simp_all; done) | (simp_all; omega)))
      refine runs_cut 1 fun R17 hR17 => ?_
      try simp (maxSteps := 1000000) [hri, List.take_succ_cons, List.take_zero, List.drop_succ_cons, List.drop_zero]
      repeat' (first | apply And.intro | intro _)
      any_goals (first | (refine Or.inl (hR17 _ ?_); clear hR17) | (first | omega | (simp only [IntKind.wrap_i64] at *; omega) | (simp_all; done) | (simp_all; omega)))
      try simp (maxSteps := 1000000) [hri, List.take_succ_cons, List.take_zero, List.drop_succ_cons, List.drop_zero]
      repeat' (first | apply And.intro | intro _)
      any_goals (first | (refine hK15 _ ?_; clear hK15) | (first | omega | (simp only [IntKind.wrap_i64] at *; omega) | (simp_all; done) | (simp_all; omega)))
      refine swp_region ty_ok ?_
      try simp (maxSteps := 1000000)
      repeat' apply And.intro
      any_goals (try omega)
      refine hL11 _ ⟨[(0, .ro (.rows 2 (ws.map Sc.row))), (3, .sl 0 0 ((bkR (ws.take i)).length + (k + 1)) ((bkR (ws.take i)).length + (k + 1))), (4, .int .i64 (i : Nat)), (5, .int .i64 ((k + 1) : Nat))], [(0, some ⟨.ints .i64 (bkR (ws.take i) ++ List.replicate (k + 1) (ws[i]?.getD default).book), false, 3⟩)], 1⟩ _ ?_ ⟨(k + 1), by (first | omega | (simp only [IntKind.wrap_i64] at *; omega) | (simp_all; done) | (simp_all; omega)), rfl, rfl⟩ ⟨by simp [getT, PV.lo, lo1, hkw]; omega, by simp [getH, Blk.lo, Cells.lo, lo1, List.replicate_succ'], rfl, by omega⟩
      omega
    · clear hC14
      try simp at hc14
      refine swp_exit ?_
      simp [thn, inBlk]
      refine hK9 _ ?_; clear hK9
      refine swp_region ty_ok ?_
      try simp (maxSteps := 1000000)
      repeat' apply And.intro
      any_goals (try omega)
      refine hL5 _ ⟨[(0, .ro (.rows 2 (ws.map Sc.row))), (3, .sl 0 0 (bkR (ws.take (i + 1))).length (bkR (ws.take (i + 1))).length), (4, .int .i64 ((i + 1) : Nat))], [(0, some ⟨.ints .i64 (bkR (ws.take (i + 1))), false, 3⟩)], 1⟩ _ ?_ ⟨(i + 1), by omega, by (rw [hsu, List.length_append, List.length_replicate]; omega), rfl, rfl⟩ ⟨by (have hk : (ws[i]?.getD default).len.toNat = k := (by omega); rw [hk] at hsu; simp [getT, PV.lo, lo1, hiw, hsu]), by (have hk : (ws[i]?.getD default).len.toNat = k := (by omega); rw [hk] at hsu; simp [getH, Blk.lo, Cells.lo, lo1, hsu]), rfl, by omega⟩
      omega
  · clear hC8
    try simp at hc8
    refine swp_exit ?_
    simp [thn, inBlk]
    refine hK3 _ ?_; clear hK3
    refine swp_seq fun K18 hK18 => ?_
    refine swp_region ty_ok ?_
    try simp (maxSteps := 1000000)
    repeat' (first | apply And.intro | intro _)
    any_goals (first | (refine hK18 _ ?_; clear hK18) | (first | omega | (simp only [IntKind.wrap_i64] at *; omega) | (simp_all; done) | (simp_all; omega)))
    refine swp_ret ?_
    simp [fnPost, Try.results110, resP, tupOf]
    rw [List.take_of_length_le (by omega)]

set_option maxHeartbeats 2000000 in
theorem mayS_ok (s sh m : Int) (g : List Int) (se : List (List Sc)) (hm : 0 ≤ m ∧ m ≤ 40) (hs : se.length ≤ 1000) (hw : ∀ w ∈ se, w.length ≤ 1000) : PCall Try.prog 101 [.agg [.int .u8 s, .int .u8 sh, .int .i64 m, .ro (.ints .i64 g)], .ro (.rows 1 (se.map fun w => [.ro (.rows 2 (w.map Sc.row))]))] (.bool (secB m g se)) := by
  refine pcall_body ty_ok Try.func101 rfl (by rfl) (by simp) ?_
  rw [Try.ntmps101]
  refine swp_seq fun K1 hK1 => ?_
  refine swp_region ty_ok ?_
  try simp (maxSteps := 1000000)
  repeat' (first | apply And.intro | intro _)
  any_goals (first | (refine hK1 _ ?_; clear hK1) | (first | omega | (simp only [IntKind.wrap_i64] at *; omega) | (simp_all; done) | (simp_all; omega)))
  refine swp_seq fun K2 hK2 => ?_
  refine swp_seq fun K3 hK3 => ?_
  refine swp_region ty_ok ?_
  try simp (maxSteps := 1000000)
  repeat' (first | apply And.intro | intro _)
  any_goals (first | (refine hK3 _ ?_; clear hK3) | (first | omega | (simp only [IntKind.wrap_i64] at *; omega) | (simp_all; done) | (simp_all; omega)))
  refine swp_if fun C4 hC4 => ?_
  try simp (maxSteps := 1000000)
  refine hC4 _ (fun hc4 => ?_) (fun hc4 => ?_)
  · clear hC4
    try simp at hc4
    refine swp_seq fun K5 hK5 => ?_
    refine swp_region ty_ok ?_
    try simp (maxSteps := 1000000)
    repeat' (first | apply And.intro | intro _)
    any_goals (first | (refine hK5 _ ?_; clear hK5) | (first | omega | (simp only [IntKind.wrap_i64] at *; omega) | (simp_all; done) | (simp_all; omega)))
    refine swp_ret ?_
    simp [fnPost, Try.results101, resP, tupOf]
    exact secB_len (by omega)
  · clear hC4
    try simp at hc4
    refine swp_skip ?_
    simp only [thn, inBlk]
    refine hK2 _ ?_; clear hK2
    refine swp_seq fun K6 hK6 => ?_
    refine swp_seq fun K7 hK7 => ?_
    refine swp_region ty_ok ?_
    try simp (maxSteps := 1000000)
    repeat' (first | apply And.intro | intro _)
    any_goals (first | (refine hK7 _ ?_; clear hK7) | (first | omega | (simp only [IntKind.wrap_i64] at *; omega) | (simp_all; done) | (simp_all; omega)))
    refine swp_block ?_
    refine swp_loop 1 (fun m_ s_ => ∃ (k : Nat), (k ≤ se.length) ∧ (∀ i < k, secL m (se[i]?.getD []) = true) ∧ s_ = ⟨[(1, .ro (.rows 1 (se.map fun w => [.ro (.rows 2 (w.map Sc.row))]))), (2, .ptr 0 0 0 1), (5, .int .i64 (k : Nat))], [(0, some ⟨.rows 4 [[.int .u8 s, .int .u8 sh, .int .i64 m, .ro (.ints .i64 g)]], true, 24⟩)], 1⟩ ∧ m_ = se.length - k) _ ⟨[(1, .ro (.rows 1 (se.map fun w => [.ro (.rows 2 (w.map Sc.row))]))), (2, .ptr 0 0 0 1), (5, .int .i64 (0 : Nat))], [(0, some ⟨.rows 4 [[.int .u8 s, .int .u8 sh, .int .i64 m, .ro (.ints .i64 g)]], true, 24⟩)], 1⟩ ⟨by simp [getT, PV.lo, lo1], by simp [getH, Blk.lo, Cells.lo, lo1], rfl, by omega⟩ ⟨(0), by omega, by simp, rfl, rfl⟩ ?_
    rintro m_ s_ ⟨k, hL8_0, hL8_1, rfl, rfl⟩ KL8 hL8
    have hkw : IntKind.i64.wrap ((k : Int) + 1) = (((k + 1 : Nat)) : Int) := wnext (by omega)
    refine swp_seq fun K9 hK9 => ?_
    refine swp_seq fun K10 hK10 => ?_
    refine swp_region ty_ok ?_
    try simp (maxSteps := 1000000)
    repeat' (first | apply And.intro | intro _)
    any_goals (first | (refine hK10 _ ?_; clear hK10) | (first | omega | (simp only [IntKind.wrap_i64] at *; omega) | (simp_all; done) | (simp_all; omega)))
    refine swp_if fun C11 hC11 => ?_
    try simp (maxSteps := 1000000)
    refine hC11 _ (fun hc11 => ?_) (fun hc11 => ?_)
    · clear hC11
      try simp at hc11
      refine swp_skip ?_
      simp only [thn, inBlk]
      refine hK9 _ ?_; clear hK9
      refine swp_seq fun K12 hK12 => ?_
      refine swp_block ?_
      refine swp_seq fun K13 hK13 => ?_
      refine swp_region ty_ok ?_
      try simp (maxSteps := 1000000)
      repeat' (first | apply And.intro | intro _)
      any_goals (first | (refine hK13 _ ?_; clear hK13) | (first | omega | (simp only [IntKind.wrap_i64] at *; omega) | (simp_all; done) | (simp_all; omega)))
      refine swp_seq fun K14 hK14 => ?_
      refine swp_seq fun K15 hK15 => ?_
      refine swp_region ty_ok ?_
      try simp (maxSteps := 1000000)
      repeat' (first | apply And.intro | intro _)
      any_goals (first | (refine hK15 _ ?_; clear hK15) | (first | omega | (simp only [IntKind.wrap_i64] at *; omega) | (simp_all; done) | (simp_all; omega)))
      refine swp_block ?_
      have hsl : (se[k]?.getD []).length ≤ 1000 := hw _ (mem_at (w := se) (j := k) (by omega))
      refine swp_loop 1 (fun m_ s_ => ∃ (j : Nat), (j ≤ (se[k]?.getD []).length) ∧ (∀ i < j, badS ((se[k]?.getD [])[i]?.getD default) = false) ∧ (0 ≤ lenS (se[k]?.getD []) j ∧ lenS (se[k]?.getD []) j ≤ m) ∧ s_ = ⟨[(1, .ro (.rows 1 (se.map fun w => [.ro (.rows 2 (w.map Sc.row))]))), (2, .ptr 0 0 0 1), (5, .int .i64 (k : Nat)), (6, .int .i64 (m - lenS (se[k]?.getD []) j)), (7, .int .i64 (j : Nat))], [(0, some ⟨.rows 4 [[.int .u8 s, .int .u8 sh, .int .i64 m, .ro (.ints .i64 g)]], true, 24⟩)], 1⟩ ∧ m_ = (se[k]?.getD []).length - j) _ ⟨[(1, .ro (.rows 1 (se.map fun w => [.ro (.rows 2 (w.map Sc.row))]))), (2, .ptr 0 0 0 1), (5, .int .i64 (k : Nat)), (6, .int .i64 (m - lenS (se[k]?.getD []) 0)), (7, .int .i64 (0 : Nat))], [(0, some ⟨.rows 4 [[.int .u8 s, .int .u8 sh, .int .i64 m, .ro (.ints .i64 g)]], true, 24⟩)], 1⟩ ⟨by simp [getT, PV.lo, lo1, lenS], by simp [getH, Blk.lo, Cells.lo, lo1], rfl, by omega⟩ ⟨(0), by omega, by simp, by (simp [lenS]; omega), rfl, rfl⟩ ?_
      rintro m_ s_ ⟨j, hL16_0, hL16_1, hL16_2, rfl, rfl⟩ KL16 hL16
      have hjw : IntKind.i64.wrap ((j : Int) + 1) = (((j + 1 : Nat)) : Int) := wnext (by omega)
      refine swp_seq fun K17 hK17 => ?_
      refine swp_seq fun K18 hK18 => ?_
      have hrow := s_at (l := se) (k := k) (by omega)
      refine swp_region ty_ok ?_
      try simp (maxSteps := 1000000) [hrow]
      repeat' (first | apply And.intro | intro _)
      any_goals (first | (refine hK18 _ ?_; clear hK18) | (first | omega | (simp only [IntKind.wrap_i64] at *; omega) | (simp_all; done) | (simp_all; omega)))
      refine swp_if fun C19 hC19 => ?_
      try simp (maxSteps := 1000000) [hrow]
      refine hC19 _ (fun hc19 => ?_) (fun hc19 => ?_)
      · clear hC19
        try simp at hc19
        refine swp_skip ?_
        simp only [thn, inBlk]
        refine hK17 _ ?_; clear hK17
        refine swp_seq fun K20 hK20 => ?_
        refine swp_block ?_
        refine swp_seq fun K21 hK21 => ?_
        have hrj := sc_at (ws := (se[k]?.getD [])) (k := j) (by omega)
        refine swp_region ty_ok ?_
        try simp (maxSteps := 1000000) [hrow, hrj]
        repeat' (first | apply And.intro | intro _)
        any_goals (first | (refine hK21 _ ?_; clear hK21) | (first | omega | (simp only [IntKind.wrap_i64] at *; omega) | (simp_all; done) | (simp_all; omega)))
        refine swp_seq fun K22 hK22 => ?_
        refine swp_seq fun K23 hK23 => ?_
        refine swp_region ty_ok ?_
        refine runs_cut 12 fun R24 hR24 => ?_
        try simp (maxSteps := 1000000) [List.take_succ_cons, List.take_zero, List.drop_succ_cons, List.drop_zero]
        repeat' (first | apply And.intro | intro _)
        any_goals (first | (refine hR24 _ ?_; clear hR24) | (first | omega | (simp only [IntKind.wrap_i64] at *; omega) | (simp_all; done) | (simp_all; omega)))
        try simp (maxSteps := 1000000) [List.take_succ_cons, List.take_zero, List.drop_succ_cons, List.drop_zero]
        repeat' (first | apply And.intro | intro _)
        any_goals (first | (refine hK23 _ ?_; clear hK23) | (first | omega | (simp only [IntKind.wrap_i64] at *; omega) | (simp_all; done) | (simp_all; omega)))
        refine swp_if fun C25 hC25 => ?_
        try simp (maxSteps := 1000000)
        refine hC25 _ (fun hc25 => ?_) (fun hc25 => ?_)
        · clear hC25
          try simp at hc25
          refine swp_seq fun K26 hK26 => ?_
          refine swp_region ty_ok ?_
          try simp (maxSteps := 1000000)
          repeat' (first | apply And.intro | intro _)
          any_goals (first | (refine hK26 _ ?_; clear hK26) | (first | omega | (simp only [IntKind.wrap_i64] at *; omega) | (simp_all; done) | (simp_all; omega)))
          refine swp_ret ?_
          simp [fnPost, Try.results101, resP, tupOf]
          exact secB_one (k := k) (by omega) (secL_over (k := j) (by omega) hc25)
        · clear hC25
          try simp at hc25
          refine swp_skip ?_
          simp only [thn, inBlk]
          refine hK22 _ ?_; clear hK22
          have hcc := hc25
          have hls := lenS_succ (se[k]?.getD []) j (by omega)
          have hbj : badS ((se[k]?.getD [])[j]?.getD default) = false := badS_mk hcc (by omega)
          refine swp_region ty_ok ?_
          try simp (maxSteps := 1000000)
          repeat' (first | apply And.intro | intro _)
          any_goals (first | (refine hK20 _ ?_; clear hK20) | (first | omega | (simp only [IntKind.wrap_i64] at *; omega) | (simp_all; done) | (simp_all; omega)))
          refine swp_region ty_ok ?_
          try simp (maxSteps := 1000000)
          repeat' apply And.intro
          any_goals (try omega)
          refine hL16 _ ⟨[(1, .ro (.rows 1 (se.map fun w => [.ro (.rows 2 (w.map Sc.row))]))), (2, .ptr 0 0 0 1), (5, .int .i64 (k : Nat)), (6, .int .i64 (m - lenS (se[k]?.getD []) (j + 1))), (7, .int .i64 ((j + 1) : Nat))], [(0, some ⟨.rows 4 [[.int .u8 s, .int .u8 sh, .int .i64 m, .ro (.ints .i64 g)]], true, 24⟩)], 1⟩ _ ?_ ⟨(j + 1), by omega, by (refine lt_step (by assumption) hbj), by (rw [hls]; omega), rfl, rfl⟩ ⟨by (simp [getT, PV.lo, lo1, hjw, hls]; rw [w64 (by omega)]; omega), by simp [getH, Blk.lo, Cells.lo, lo1], rfl, by omega⟩
          omega
      · clear hC19
        try simp at hc19
        refine swp_exit ?_
        simp [thn, inBlk]
        refine hK14 _ ?_; clear hK14
        refine swp_seq fun K27 hK27 => ?_
        refine swp_region ty_ok ?_
        try simp (maxSteps := 1000000)
        repeat' (first | apply And.intro | intro _)
        any_goals (first | (refine hK27 _ ?_; clear hK27) | (first | omega | (simp only [IntKind.wrap_i64] at *; omega) | (simp_all; done) | (simp_all; omega)))
        refine swp_if fun C28 hC28 => ?_
        try simp (maxSteps := 1000000)
        refine hC28 _ (fun hc28 => ?_) (fun hc28 => ?_)
        · clear hC28
          try simp at hc28
          refine swp_seq fun K29 hK29 => ?_
          refine swp_region ty_ok ?_
          try simp (maxSteps := 1000000)
          repeat' (first | apply And.intro | intro _)
          any_goals (first | (refine hK29 _ ?_; clear hK29) | (first | omega | (simp only [IntKind.wrap_i64] at *; omega) | (simp_all; done) | (simp_all; omega)))
          refine swp_ret ?_
          simp [fnPost, Try.results101, resP, tupOf]
          exact secB_one (k := k) (by omega) (secL_no (j := j) (by omega) (by have := hc28; omega))
        · clear hC28
          try simp at hc28
          refine swp_skip ?_
          simp only [thn, inBlk]
          refine hK12 _ ?_; clear hK12
          refine swp_region ty_ok ?_
          try simp (maxSteps := 1000000)
          repeat' apply And.intro
          any_goals (try omega)
          refine hL8 _ ⟨[(1, .ro (.rows 1 (se.map fun w => [.ro (.rows 2 (w.map Sc.row))]))), (2, .ptr 0 0 0 1), (5, .int .i64 ((k + 1) : Nat))], [(0, some ⟨.rows 4 [[.int .u8 s, .int .u8 sh, .int .i64 m, .ro (.ints .i64 g)]], true, 24⟩)], 1⟩ _ ?_ ⟨(k + 1), by omega, by (refine lt_step (by assumption) ?_; exact secL_mk (k := j) (by omega) (by omega) (by assumption) (by have := hc28; omega)), rfl, rfl⟩ ⟨by simp [getT, PV.lo, lo1, hkw], by simp [getH, Blk.lo, Cells.lo, lo1], rfl, by omega⟩
          omega
    · clear hC11
      try simp at hc11
      refine swp_exit ?_
      simp [thn, inBlk]
      refine hK6 _ ?_; clear hK6
      refine swp_seq fun K30 hK30 => ?_
      refine swp_region ty_ok ?_
      try simp (maxSteps := 1000000)
      repeat' (first | apply And.intro | intro _)
      any_goals (first | (refine hK30 _ ?_; clear hK30) | (first | omega | (simp only [IntKind.wrap_i64] at *; omega) | (simp_all; done) | (simp_all; omega)))
      refine swp_ret ?_
      simp [fnPost, Try.results101, resP, tupOf]
      exact secB_all (k := k) (by omega) (by omega) (by assumption)

set_option maxHeartbeats 8000000 in
theorem maySt_ok (ga m : Int) (g : List Int) (se : List (List Sc)) (st : List (List Int)) (hg : se.length = g.length) (hl : g.length ≤ 1000 ∧ st.length ≤ 1000) (hs : ∀ w ∈ se, secL m w = true) (ht : ∀ w ∈ st, w.length ≤ 1000) (hga : 0 ≤ ga ∧ ga ≤ 255) (hm : 0 ≤ m ∧ m ≤ 40) : PCall Try.prog 102 [.int .i64 ga, .ro (.rows 1 (se.map fun w => [.ro (.rows 2 (w.map Sc.row))])), .ro (.rows 1 (st.map fun w => [.ro (.ints .i64 w)]))] (.bool (stpB ga m g se st)) := by
  refine pcall_body ty_ok Try.func102 rfl (by rfl) (by simp) ?_
  rw [Try.ntmps102]
  refine swp_seq fun K1 hK1 => ?_
  refine swp_region ty_ok ?_
  try simp (maxSteps := 1000000)
  repeat' (first | apply And.intro | intro _)
  any_goals (first | (refine hK1 _ ?_; clear hK1) | (first | omega | (simp only [IntKind.wrap_i64] at *; omega) | (simp_all; done) | (simp_all; omega)))
  refine swp_seq fun K2 hK2 => ?_
  refine swp_seq fun K3 hK3 => ?_
  refine swp_region ty_ok ?_
  try simp (maxSteps := 1000000)
  repeat' (first | apply And.intro | intro _)
  any_goals (first | (refine hK3 _ ?_; clear hK3) | (first | omega | (simp only [IntKind.wrap_i64] at *; omega) | (simp_all; done) | (simp_all; omega)))
  refine swp_if fun C4 hC4 => ?_
  try simp (maxSteps := 1000000)
  refine hC4 _ (fun hc4 => ?_) (fun hc4 => ?_)
  · clear hC4
    try simp at hc4
    refine swp_seq fun K5 hK5 => ?_
    refine swp_region ty_ok ?_
    try simp (maxSteps := 1000000)
    repeat' (first | apply And.intro | intro _)
    any_goals (first | (refine hK5 _ ?_; clear hK5) | (first | omega | (simp only [IntKind.wrap_i64] at *; omega) | (simp_all; done) | (simp_all; omega)))
    refine swp_ret ?_
    simp [fnPost, Try.results102, resP, tupOf]
    exact stp_len (by omega)
  · clear hC4
    try simp at hc4
    refine swp_skip ?_
    simp only [thn, inBlk]
    refine hK2 _ ?_; clear hK2
    refine swp_seq fun K6 hK6 => ?_
    refine swp_region ty_ok ?_
    try simp (maxSteps := 1000000)
    repeat' (first | apply And.intro | intro _)
    any_goals (first | (refine hK6 _ ?_; clear hK6) | (first | omega | (simp only [IntKind.wrap_i64] at *; omega) | (simp_all; done) | (simp_all; omega)))
    refine swp_seq fun K7 hK7 => ?_
    refine swp_region ty_ok ?_
    try simp (maxSteps := 1000000)
    repeat' (first | apply And.intro | intro _)
    any_goals (first | (refine hK7 _ ?_; clear hK7) | (first | omega | (simp only [IntKind.wrap_i64] at *; omega) | (simp_all; done) | (simp_all; omega)))
    refine swp_seq fun K8 hK8 => ?_
    refine swp_seq fun K9 hK9 => ?_
    refine swp_region ty_ok ?_
    try simp (maxSteps := 1000000)
    repeat' (first | apply And.intro | intro _)
    any_goals (first | (refine hK9 _ ?_; clear hK9) | (first | omega | (simp only [IntKind.wrap_i64] at *; omega) | (simp_all; done) | (simp_all; omega)))
    refine swp_block ?_
    refine swp_loop 0 (fun m_ s_ => ∃ (k : Nat) (z : Zs), (k ≤ se.length) ∧ (ZOk z) ∧ (allZ se m (st.drop k) (k : Nat) z = allZ se m st 0 ⟨ga, 0, false⟩) ∧ s_ = ⟨[(1, .ro (.rows 1 (se.map fun w => [.ro (.rows 2 (w.map Sc.row))]))), (2, .ro (.rows 1 (st.map fun w => [.ro (.ints .i64 w)]))), (7, .int .i64 z.last), (8, .int .i64 (nzI z)), (9, .int .i64 (k : Nat))], [], 0⟩ ∧ m_ = se.length - k) _ ⟨[(1, .ro (.rows 1 (se.map fun w => [.ro (.rows 2 (w.map Sc.row))]))), (2, .ro (.rows 1 (st.map fun w => [.ro (.ints .i64 w)]))), (7, .int .i64 (Zs.mk ga 0 false).last), (8, .int .i64 (nzI (Zs.mk ga 0 false))), (9, .int .i64 (0 : Nat))], [], 0⟩ ⟨by simp [getT, PV.lo, lo1, nzI], by simp [getH, Blk.lo, Cells.lo, lo1], rfl, by omega⟩ ⟨(0), ((Zs.mk ga 0 false)), by omega, by (exact ⟨hga, by show (0 : Int) ≤ 0 ∧ (0 : Int) ≤ 511; omega⟩), by rfl, rfl, rfl⟩ ?_
    rintro m_ s_ ⟨k, z, hL10_0, hL10_1, hL10_2, rfl, rfl⟩ KL10 hL10
    have hkw : IntKind.i64.wrap ((k : Int) + 1) = (((k + 1 : Nat)) : Int) := wnext (by omega)
    have hz0 := (by assumption : allZ se m (st.drop k) (k : Nat) z = allZ se m st 0 (Zs.mk ga 0 false))
    refine swp_seq fun K11 hK11 => ?_
    refine swp_seq fun K12 hK12 => ?_
    refine swp_region ty_ok ?_
    try simp (maxSteps := 1000000)
    repeat' (first | apply And.intro | intro _)
    any_goals (first | (refine hK12 _ ?_; clear hK12) | (first | omega | (simp only [IntKind.wrap_i64] at *; omega) | (simp_all; done) | (simp_all; omega)))
    refine swp_if fun C13 hC13 => ?_
    try simp (maxSteps := 1000000)
    refine hC13 _ (fun hc13 => ?_) (fun hc13 => ?_)
    · clear hC13
      try simp at hc13
      refine swp_skip ?_
      simp only [thn, inBlk]
      refine hK11 _ ?_; clear hK11
      refine swp_seq fun K14 hK14 => ?_
      refine swp_block ?_
      refine swp_seq fun K15 hK15 => ?_
      have hrowS := s_at (l := se) (k := k) (by omega)
      have hmk : (se[k]?.getD []) ∈ se := mem_at (w := se) (by omega)
      obtain ⟨hb1, hb2, hb3⟩ := secL_true (hs _ hmk)
      have hbl := bkR_len hb1
      rw [hb2] at hbl
      have had := all_drop (se := se) (m := m) (st := st) (j := k) (by omega) z
      refine swp_region ty_ok ?_
      refine runs_cut 4 fun R16 hR16 => ?_
      try simp (maxSteps := 1000000) [hrowS, List.take_succ_cons, List.take_zero, List.drop_succ_cons, List.drop_zero]
      repeat' (first | apply And.intro | intro _)
      any_goals (first | (refine hR16 _ ?_; clear hR16) | (first | omega | (simp only [IntKind.wrap_i64] at *; omega) | (simp_all; done) | (simp_all; omega)))
      refine runs_cut 1 fun R17 hR17 => ?_
      try simp (maxSteps := 1000000) [hrowS, List.take_succ_cons, List.take_zero, List.drop_succ_cons, List.drop_zero]
      refine .inl ⟨_, books_ok (se[k]?.getD []) hb1 hb3, ?_⟩
      try simp (maxSteps := 1000000) [hrowS]
      repeat' (first | apply And.intro | intro _)
      any_goals (first | (refine hR17 _ ?_; clear hR17) | (first | omega | (simp only [IntKind.wrap_i64] at *; omega) | (simp_all; done) | (simp_all; omega)))
      try simp (maxSteps := 1000000) [hrowS, List.take_succ_cons, List.take_zero, List.drop_succ_cons, List.drop_zero]
      repeat' (first | apply And.intro | intro _)
      any_goals (first | (refine hK15 _ ?_; clear hK15) | (first | omega | (simp only [IntKind.wrap_i64] at *; omega) | (simp_all; done) | (simp_all; omega)))
      refine swp_seq fun K18 hK18 => ?_
      refine swp_seq fun K19 hK19 => ?_
      have hrowT := i_at (l := st) (k := k) (by omega)
      have hrl : (st[k]?.getD []).length ≤ 1000 := ht _ (mem_at (w := st) (by omega))
      refine swp_region ty_ok ?_
      try simp (maxSteps := 1000000) [hrowT]
      repeat' (first | apply And.intro | intro _)
      any_goals (first | (refine hK19 _ ?_; clear hK19) | (first | omega | (simp only [IntKind.wrap_i64] at *; omega) | (simp_all; done) | (simp_all; omega)))
      refine swp_if fun C20 hC20 => ?_
      try simp (maxSteps := 1000000) [hrowT]
      refine hC20 _ (fun hc20 => ?_) (fun hc20 => ?_)
      · clear hC20
        try simp at hc20
        refine swp_seq fun K21 hK21 => ?_
        refine swp_region ty_ok ?_
        try simp (maxSteps := 1000000)
        repeat' (first | apply And.intro | intro _)
        any_goals (first | (refine hK21 _ ?_; clear hK21) | (first | omega | (simp only [IntKind.wrap_i64] at *; omega) | (simp_all; done) | (simp_all; omega)))
        refine swp_ret ?_
        simp [fnPost, Try.results102, resP, tupOf]
        refine stp_bad ?_
        rw [← hz0, had, if_neg (by have h := hc20; omega)]
      · clear hC20
        try simp at hc20
        refine swp_skip ?_
        simp only [thn, inBlk]
        refine hK18 _ ?_; clear hK18
        refine swp_seq fun K22 hK22 => ?_
        refine swp_region ty_ok ?_
        try simp (maxSteps := 1000000)
        repeat' (first | apply And.intro | intro _)
        any_goals (first | (refine hK22 _ ?_; clear hK22) | (first | omega | (simp only [IntKind.wrap_i64] at *; omega) | (simp_all; done) | (simp_all; omega)))
        refine swp_block ?_
        have hrm : ((st[k]?.getD []).length : Int) = m := by have h := hc20; omega
        refine swp_loop 0 (fun m_ s_ => ∃ (j : Nat) (y : Zs), (j ≤ (bkR (se[k]?.getD [])).length) ∧ (ZOk y) ∧ (rowZ se (k : Nat) ((st[k]?.getD []).drop j) (j : Nat) y = rowZ se (k : Nat) (st[k]?.getD []) 0 z) ∧ s_ = ⟨[(1, .ro (.rows 1 (se.map fun w => [.ro (.rows 2 (w.map Sc.row))]))), (2, .ro (.rows 1 (st.map fun w => [.ro (.ints .i64 w)]))), (7, .int .i64 y.last), (8, .int .i64 (nzI y)), (9, .int .i64 (k : Nat)), (10, .ro (.ints .i64 (bkR (se[k]?.getD [])))), (11, .int .i64 (j : Nat))], [], 0⟩ ∧ m_ = (bkR (se[k]?.getD [])).length - j) _ ⟨[(1, .ro (.rows 1 (se.map fun w => [.ro (.rows 2 (w.map Sc.row))]))), (2, .ro (.rows 1 (st.map fun w => [.ro (.ints .i64 w)]))), (7, .int .i64 z.last), (8, .int .i64 (nzI z)), (9, .int .i64 (k : Nat)), (10, .ro (.ints .i64 (bkR (se[k]?.getD [])))), (11, .int .i64 (0 : Nat))], [], 0⟩ ⟨by simp [getT, PV.lo, lo1], by simp [getH, Blk.lo, Cells.lo, lo1], rfl, by omega⟩ ⟨(0), (z), by omega, by assumption, by rfl, rfl, rfl⟩ ?_
        rintro m_ s_ ⟨j, y, hL23_0, hL23_1, hL23_2, rfl, rfl⟩ KL23 hL23
        have hjw : IntKind.i64.wrap ((j : Int) + 1) = (((j + 1 : Nat)) : Int) := wnext (by omega)
        obtain ⟨zo1, zo2⟩ := (by assumption : ZOk y)
        have hnb : -1 ≤ nzI y ∧ nzI y ≤ 511 := by unfold nzI; split <;> omega
        have hy0 := (by assumption : rowZ se (k : Nat) ((st[k]?.getD []).drop j) (j : Nat) y = rowZ se (k : Nat) (st[k]?.getD []) 0 z)
        refine swp_seq fun K24 hK24 => ?_
        refine swp_seq fun K25 hK25 => ?_
        refine swp_region ty_ok ?_
        try simp (maxSteps := 1000000)
        repeat' (first | apply And.intro | intro _)
        any_goals (first | (refine hK25 _ ?_; clear hK25) | (first | omega | (simp only [IntKind.wrap_i64] at *; omega) | (simp_all; done) | (simp_all; omega)))
        refine swp_if fun C26 hC26 => ?_
        try simp (maxSteps := 1000000)
        refine hC26 _ (fun hc26 => ?_) (fun hc26 => ?_)
        · clear hC26
          try simp at hc26
          refine swp_skip ?_
          simp only [thn, inBlk]
          refine hK24 _ ?_; clear hK24
          refine swp_seq fun K27 hK27 => ?_
          refine swp_block ?_
          refine swp_seq fun K28 hK28 => ?_
          have hrd := row_drop (se := se) (g := (k : Nat)) (row := (st[k]?.getD [])) (j := j) (by omega) y
          have hbx : (bkR (se[k]?.getD []))[j]?.getD 0 = (bkG se (k : Nat) (j : Nat)).1 := by rw [bkR_at hb1 (by omega)]; unfold bkG; rw [if_neg (by omega)]; rfl
          refine swp_region ty_ok ?_
          try simp (maxSteps := 1000000) [hrowT]
          repeat' (first | apply And.intro | intro _)
          any_goals (first | (refine hK28 _ ?_; clear hK28) | (first | omega | (simp only [IntKind.wrap_i64] at *; omega) | (simp_all; done) | (simp_all; omega)))
          refine swp_seq fun K29 hK29 => ?_
          refine swp_seq fun K30 hK30 => ?_
          refine swp_region ty_ok ?_
          try simp (maxSteps := 1000000) [hbx]
          repeat' (first | apply And.intro | intro _)
          any_goals (first | (refine hK30 _ ?_; clear hK30) | (first | omega | (simp only [IntKind.wrap_i64] at *; omega) | (simp_all; done) | (simp_all; omega)))
          refine swp_if fun C31 hC31 => ?_
          try simp (maxSteps := 1000000) [hbx]
          refine hC31 _ (fun hc31 => ?_) (fun hc31 => ?_)
          · clear hC31
            try simp at hc31
            refine swp_seq fun K32 hK32 => ?_
            refine swp_seq fun K33 hK33 => ?_
            have hb13 : ¬ (bkG se (k : Nat) (j : Nat)).1 = 13 := by have h := hc31; omega
            have hbz : (bkG se (k : Nat) (j : Nat)).1 = 0 := hc31
            refine swp_region ty_ok ?_
            try simp (maxSteps := 1000000)
            repeat' (first | apply And.intro | intro _)
            any_goals (first | (refine hK33 _ ?_; clear hK33) | (first | omega | (simp only [IntKind.wrap_i64] at *; omega) | (simp_all; done) | (simp_all; omega)))
            refine swp_if fun C34 hC34 => ?_
            try simp (maxSteps := 1000000)
            refine hC34 _ (fun hc34 => ?_) (fun hc34 => ?_)
            · clear hC34
              try simp at hc34
              refine swp_seq fun K35 hK35 => ?_
              refine swp_region ty_ok ?_
              try simp (maxSteps := 1000000)
              repeat' (first | apply And.intro | intro _)
              any_goals (first | (refine hK35 _ ?_; clear hK35) | (first | omega | (simp only [IntKind.wrap_i64] at *; omega) | (simp_all; done) | (simp_all; omega)))
              refine swp_ret ?_
              simp [fnPost, Try.results102, resP, tupOf]
              refine stp_bad ?_
              rw [← hz0, had, if_pos hrm, ← hy0, hrd, show stp1 (bkG se (k : Nat) (j : Nat)).1 ((st[k]?.getD [])[j]?.getD 0) y = none from stp_nil ⟨hbz, hc34⟩]
              rfl
            · clear hC34
              try simp at hc34
              refine swp_skip ?_
              simp only [thn, inBlk]
              refine hK32 _ ?_; clear hK32
              refine swp_exit ?_
              simp [thn, inBlk]
              refine hK27 _ ?_; clear hK27
              refine swp_region ty_ok ?_
              try simp (maxSteps := 1000000)
              repeat' apply And.intro
              any_goals (try omega)
              refine hL23 _ ⟨[(1, .ro (.rows 1 (se.map fun w => [.ro (.rows 2 (w.map Sc.row))]))), (2, .ro (.rows 1 (st.map fun w => [.ro (.ints .i64 w)]))), (7, .int .i64 (nxZ (bkG se (k : Nat) (j : Nat)).1 ((st[k]?.getD [])[j]?.getD 0) y).last), (8, .int .i64 (nzI (nxZ (bkG se (k : Nat) (j : Nat)).1 ((st[k]?.getD [])[j]?.getD 0) y))), (9, .int .i64 (k : Nat)), (10, .ro (.ints .i64 (bkR (se[k]?.getD [])))), (11, .int .i64 ((j + 1) : Nat))], [], 0⟩ _ ?_ ⟨(j + 1), (nxZ (bkG se (k : Nat) (j : Nat)).1 ((st[k]?.getD [])[j]?.getD 0) y), by omega, by (first | exact stp1_ok (by assumption) hst | exact stp1_ok (by assumption) (stp_0y (fun _ => hc34) hb13 (Int.le_of_eq hbz))), by (first | (rw [← hy0, hrd, hst]; rfl) | (rw [← hy0, hrd, stp_0y (fun _ => hc34) hb13 (Int.le_of_eq hbz)]; rfl)), rfl, rfl⟩ ⟨by (first | (have hnx : nxZ (bkG se (k : Nat) (j : Nat)).1 ((st[k]?.getD [])[j]?.getD 0) y = ⟨y.last, ((st[k]?.getD [])[j]?.getD 0), true⟩ := (if_pos hb13); simp [getT, PV.lo, lo1, hjw, hnx, nzI]; done) | (have hnx : nxZ (bkG se (k : Nat) (j : Nat)).1 ((st[k]?.getD [])[j]?.getD 0) y = ⟨((st[k]?.getD [])[j]?.getD 0), y.noise, y.on⟩ := (by unfold nxZ; rw [if_neg hb13, if_pos (by omega)]); simp [getT, PV.lo, lo1, hjw, hnx, nzI]; done) | (have hnx : nxZ (bkG se (k : Nat) (j : Nat)).1 ((st[k]?.getD [])[j]?.getD 0) y = y := (by unfold nxZ; rw [if_neg hb13, if_neg (by omega)]); simp [getT, PV.lo, lo1, hjw, hnx])), by simp [getH, Blk.lo, Cells.lo, lo1], rfl, by omega⟩
              omega
          · clear hC31
            try simp at hc31
            refine swp_skip ?_
            simp only [thn, inBlk]
            refine hK29 _ ?_; clear hK29
            refine swp_seq fun K36 hK36 => ?_
            refine swp_seq fun K37 hK37 => ?_
            try have hb0 : (bkG se (k : Nat) (j : Nat)).1 = 0 → ((st[k]?.getD [])[j]?.getD 0) = 0 := fun h => absurd h hc31
            refine swp_region ty_ok ?_
            try simp (maxSteps := 1000000) [hbx]
            repeat' (first | apply And.intro | intro _)
            any_goals (first | (refine hK37 _ ?_; clear hK37) | (first | omega | (simp only [IntKind.wrap_i64] at *; omega) | (simp_all; done) | (simp_all; omega)))
            refine swp_if fun C38 hC38 => ?_
            try simp (maxSteps := 1000000) [hbx]
            refine hC38 _ (fun hc38 => ?_) (fun hc38 => ?_)
            · clear hC38
              try simp at hc38
              refine swp_seq fun K39 hK39 => ?_
              refine swp_seq fun K40 hK40 => ?_
              have hb13 := (by assumption : (bkG se (k : Nat) (j : Nat)).1 = 13)
              have hon := nzI_on (by assumption : ZOk y)
              refine swp_region ty_ok ?_
              refine runs_cut 12 fun R41 hR41 => ?_
              try simp (maxSteps := 1000000) [List.take_succ_cons, List.take_zero, List.drop_succ_cons, List.drop_zero]
              repeat' (first | apply And.intro | intro _)
              any_goals (first | (refine hR41 _ ?_; clear hR41) | (first | omega | (simp only [IntKind.wrap_i64] at *; omega) | (simp_all; done) | (simp_all; omega)))
              refine runs_cut 1 fun R42 hR42 => ?_
              try simp (maxSteps := 1000000) [List.take_succ_cons, List.take_zero, List.drop_succ_cons, List.drop_zero]
              first | refine .inl ⟨_, by (intros; exact Or.inl (far_ok (nzI y) ((st[k]?.getD [])[j]?.getD 0) (by omega) (by omega))), ?_⟩ | refine .inl ⟨.bool true, ?_⟩
              repeat' (first | apply And.intro | intro _)
              any_goals (first | (refine hR42 _ ?_; clear hR42) | (first | omega | (simp only [IntKind.wrap_i64] at *; omega) | (simp_all; done) | (simp_all; omega)))
              try simp (maxSteps := 1000000) [List.take_succ_cons, List.take_zero, List.drop_succ_cons, List.drop_zero]
              repeat' (first | apply And.intro | intro _)
              any_goals (first | (refine hK40 _ ?_; clear hK40) | (first | omega | (simp only [IntKind.wrap_i64] at *; omega) | (simp_all; done) | (simp_all; omega)))
              refine swp_if fun C43 hC43 => ?_
              try simp (maxSteps := 1000000)
              refine hC43 _ (fun hc43 => ?_) (fun hc43 => ?_)
              · clear hC43
                try simp at hc43
                refine swp_seq fun K44 hK44 => ?_
                refine swp_region ty_ok ?_
                try simp (maxSteps := 1000000)
                repeat' (first | apply And.intro | intro _)
                any_goals (first | (refine hK44 _ ?_; clear hK44) | (first | omega | (simp only [IntKind.wrap_i64] at *; omega) | (simp_all; done) | (simp_all; omega)))
                refine swp_ret ?_
                simp [fnPost, Try.results102, resP, tupOf]
                refine stp_bad ?_
                rw [← hz0, had, if_pos hrm, ← hy0, hrd, show stp1 (bkG se (k : Nat) (j : Nat)).1 ((st[k]?.getD [])[j]?.getD 0) y = none from stp_13n hb0 hb13 (far_n hon hc43)]
                rfl
              · clear hC43
                try simp at hc43
                refine swp_skip ?_
                simp only [thn, inBlk]
                refine hK39 _ ?_; clear hK39
                refine swp_seq fun K45 hK45 => ?_
                have hst : stp1 (bkG se (k : Nat) (j : Nat)).1 ((st[k]?.getD [])[j]?.getD 0) y = some (nxZ (bkG se (k : Nat) (j : Nat)).1 ((st[k]?.getD [])[j]?.getD 0) y) := stp_13y hb0 hb13 (far_y hon hc43)
                refine swp_region ty_ok ?_
                try simp (maxSteps := 1000000)
                repeat' (first | apply And.intro | intro _)
                any_goals (first | (refine hK45 _ ?_; clear hK45) | (first | omega | (simp only [IntKind.wrap_i64] at *; omega) | (simp_all; done) | (simp_all; omega)))
                refine swp_exit ?_
                simp [thn, inBlk]
                refine hK27 _ ?_; clear hK27
                refine swp_region ty_ok ?_
                try simp (maxSteps := 1000000)
                repeat' apply And.intro
                any_goals (try omega)
                refine hL23 _ ⟨[(1, .ro (.rows 1 (se.map fun w => [.ro (.rows 2 (w.map Sc.row))]))), (2, .ro (.rows 1 (st.map fun w => [.ro (.ints .i64 w)]))), (7, .int .i64 (nxZ (bkG se (k : Nat) (j : Nat)).1 ((st[k]?.getD [])[j]?.getD 0) y).last), (8, .int .i64 (nzI (nxZ (bkG se (k : Nat) (j : Nat)).1 ((st[k]?.getD [])[j]?.getD 0) y))), (9, .int .i64 (k : Nat)), (10, .ro (.ints .i64 (bkR (se[k]?.getD [])))), (11, .int .i64 ((j + 1) : Nat))], [], 0⟩ _ ?_ ⟨(j + 1), (nxZ (bkG se (k : Nat) (j : Nat)).1 ((st[k]?.getD [])[j]?.getD 0) y), by omega, by (first | exact stp1_ok (by assumption) hst | exact stp1_ok (by assumption) (stp_0y (fun _ => hc43) hb13 (Int.le_of_eq hbz))), by (first | (rw [← hy0, hrd, hst]; rfl) | (rw [← hy0, hrd, stp_0y (fun _ => hc43) hb13 (Int.le_of_eq hbz)]; rfl)), rfl, rfl⟩ ⟨by (first | (have hnx : nxZ (bkG se (k : Nat) (j : Nat)).1 ((st[k]?.getD [])[j]?.getD 0) y = ⟨y.last, ((st[k]?.getD [])[j]?.getD 0), true⟩ := (if_pos hb13); simp [getT, PV.lo, lo1, hjw, hnx, nzI]; done) | (have hnx : nxZ (bkG se (k : Nat) (j : Nat)).1 ((st[k]?.getD [])[j]?.getD 0) y = ⟨((st[k]?.getD [])[j]?.getD 0), y.noise, y.on⟩ := (by unfold nxZ; rw [if_neg hb13, if_pos (by omega)]); simp [getT, PV.lo, lo1, hjw, hnx, nzI]; done) | (have hnx : nxZ (bkG se (k : Nat) (j : Nat)).1 ((st[k]?.getD [])[j]?.getD 0) y = y := (by unfold nxZ; rw [if_neg hb13, if_neg (by omega)]); simp [getT, PV.lo, lo1, hjw, hnx])), by simp [getH, Blk.lo, Cells.lo, lo1], rfl, by omega⟩
                omega
            · clear hC38
              try simp at hc38
              refine swp_skip ?_
              simp only [thn, inBlk]
              refine hK36 _ ?_; clear hK36
              refine swp_seq fun K46 hK46 => ?_
              refine swp_seq fun K47 hK47 => ?_
              have hb13 := (by assumption : ¬ (bkG se (k : Nat) (j : Nat)).1 = 13)
              have hbp : 0 < (bkG se (k : Nat) (j : Nat)).1 := by have := bk_nn hb1 hbx; omega
              refine swp_region ty_ok ?_
              refine runs_cut 9 fun R48 hR48 => ?_
              try simp (maxSteps := 1000000) [List.take_succ_cons, List.take_zero, List.drop_succ_cons, List.drop_zero]
              repeat' (first | apply And.intro | intro _)
              any_goals (first | (refine hR48 _ ?_; clear hR48) | (first | omega | (simp only [IntKind.wrap_i64] at *; omega) | (simp_all; done) | (simp_all; omega)))
              refine runs_cut 1 fun R49 hR49 => ?_
              try simp (maxSteps := 1000000) [List.take_succ_cons, List.take_zero, List.drop_succ_cons, List.drop_zero]
              first | refine .inl ⟨_, by (intros; exact Or.inl (far_ok y.last ((st[k]?.getD [])[j]?.getD 0) (by omega) (by omega))), ?_⟩ | refine .inl ⟨.bool true, ?_⟩
              repeat' (first | apply And.intro | intro _)
              any_goals (first | (refine hR49 _ ?_; clear hR49) | (first | omega | (simp only [IntKind.wrap_i64] at *; omega) | (simp_all; done) | (simp_all; omega)))
              try simp (maxSteps := 1000000) [List.take_succ_cons, List.take_zero, List.drop_succ_cons, List.drop_zero]
              repeat' (first | apply And.intro | intro _)
              any_goals (first | (refine hK47 _ ?_; clear hK47) | (first | omega | (simp only [IntKind.wrap_i64] at *; omega) | (simp_all; done) | (simp_all; omega)))
              refine swp_if fun C50 hC50 => ?_
              try simp (maxSteps := 1000000)
              refine hC50 _ (fun hc50 => ?_) (fun hc50 => ?_)
              · clear hC50
                try simp at hc50
                refine swp_seq fun K51 hK51 => ?_
                refine swp_region ty_ok ?_
                try simp (maxSteps := 1000000)
                repeat' (first | apply And.intro | intro _)
                any_goals (first | (refine hK51 _ ?_; clear hK51) | (first | omega | (simp only [IntKind.wrap_i64] at *; omega) | (simp_all; done) | (simp_all; omega)))
                refine swp_ret ?_
                simp [fnPost, Try.results102, resP, tupOf]
                refine stp_bad ?_
                rw [← hz0, had, if_pos hrm, ← hy0, hrd, show stp1 (bkG se (k : Nat) (j : Nat)).1 ((st[k]?.getD [])[j]?.getD 0) y = none from stp_pn hb0 hb13 hbp hc50]
                rfl
              · clear hC50
                try simp at hc50
                refine swp_skip ?_
                simp only [thn, inBlk]
                refine hK46 _ ?_; clear hK46
                have hst : stp1 (bkG se (k : Nat) (j : Nat)).1 ((st[k]?.getD [])[j]?.getD 0) y = some (nxZ (bkG se (k : Nat) (j : Nat)).1 ((st[k]?.getD [])[j]?.getD 0) y) := stp_py hb0 hb13 hbp hc50
                refine swp_region ty_ok ?_
                try simp (maxSteps := 1000000)
                repeat' (first | apply And.intro | intro _)
                any_goals (first | (refine hK27 _ ?_; clear hK27) | (first | omega | (simp only [IntKind.wrap_i64] at *; omega) | (simp_all; done) | (simp_all; omega)))
                refine swp_region ty_ok ?_
                try simp (maxSteps := 1000000)
                repeat' apply And.intro
                any_goals (try omega)
                refine hL23 _ ⟨[(1, .ro (.rows 1 (se.map fun w => [.ro (.rows 2 (w.map Sc.row))]))), (2, .ro (.rows 1 (st.map fun w => [.ro (.ints .i64 w)]))), (7, .int .i64 (nxZ (bkG se (k : Nat) (j : Nat)).1 ((st[k]?.getD [])[j]?.getD 0) y).last), (8, .int .i64 (nzI (nxZ (bkG se (k : Nat) (j : Nat)).1 ((st[k]?.getD [])[j]?.getD 0) y))), (9, .int .i64 (k : Nat)), (10, .ro (.ints .i64 (bkR (se[k]?.getD [])))), (11, .int .i64 ((j + 1) : Nat))], [], 0⟩ _ ?_ ⟨(j + 1), (nxZ (bkG se (k : Nat) (j : Nat)).1 ((st[k]?.getD [])[j]?.getD 0) y), by omega, by (first | exact stp1_ok (by assumption) hst | exact stp1_ok (by assumption) (stp_0y (fun _ => hc50) hb13 (Int.le_of_eq hbz))), by (first | (rw [← hy0, hrd, hst]; rfl) | (rw [← hy0, hrd, stp_0y (fun _ => hc50) hb13 (Int.le_of_eq hbz)]; rfl)), rfl, rfl⟩ ⟨by (first | (have hnx : nxZ (bkG se (k : Nat) (j : Nat)).1 ((st[k]?.getD [])[j]?.getD 0) y = ⟨y.last, ((st[k]?.getD [])[j]?.getD 0), true⟩ := (if_pos hb13); simp [getT, PV.lo, lo1, hjw, hnx, nzI]; done) | (have hnx : nxZ (bkG se (k : Nat) (j : Nat)).1 ((st[k]?.getD [])[j]?.getD 0) y = ⟨((st[k]?.getD [])[j]?.getD 0), y.noise, y.on⟩ := (by unfold nxZ; rw [if_neg hb13, if_pos (by omega)]); simp [getT, PV.lo, lo1, hjw, hnx, nzI]; done) | (have hnx : nxZ (bkG se (k : Nat) (j : Nat)).1 ((st[k]?.getD [])[j]?.getD 0) y = y := (by unfold nxZ; rw [if_neg hb13, if_neg (by omega)]); simp [getT, PV.lo, lo1, hjw, hnx])), by simp [getH, Blk.lo, Cells.lo, lo1], rfl, by omega⟩
                omega
        · clear hC26
          try simp at hc26
          refine swp_exit ?_
          simp [thn, inBlk]
          refine hK14 _ ?_; clear hK14
          refine swp_region ty_ok ?_
          try simp (maxSteps := 1000000)
          repeat' apply And.intro
          any_goals (try omega)
          refine hL10 _ ⟨[(1, .ro (.rows 1 (se.map fun w => [.ro (.rows 2 (w.map Sc.row))]))), (2, .ro (.rows 1 (st.map fun w => [.ro (.ints .i64 w)]))), (7, .int .i64 y.last), (8, .int .i64 (nzI y)), (9, .int .i64 ((k + 1) : Nat))], [], 0⟩ _ ?_ ⟨(k + 1), (y), by omega, by assumption, by (rw [← hz0, had, if_pos hrm, ← hy0, row_end (by omega)]; rfl), rfl, rfl⟩ ⟨by simp [getT, PV.lo, lo1, hkw], by simp [getH, Blk.lo, Cells.lo, lo1], rfl, by omega⟩
          omega
    · clear hC13
      try simp at hc13
      refine swp_exit ?_
      simp [thn, inBlk]
      refine hK8 _ ?_; clear hK8
      refine swp_seq fun K52 hK52 => ?_
      refine swp_region ty_ok ?_
      try simp (maxSteps := 1000000)
      repeat' (first | apply And.intro | intro _)
      any_goals (first | (refine hK52 _ ?_; clear hK52) | (first | omega | (simp only [IntKind.wrap_i64] at *; omega) | (simp_all; done) | (simp_all; omega)))
      refine swp_ret ?_
      simp [fnPost, Try.results102, resP, tupOf]
      rw [all_end (by omega)] at hz0
      exact stp_all (by omega) hz0.symm

end Go.Proofs.Ytmkgfgdipkagbaa

