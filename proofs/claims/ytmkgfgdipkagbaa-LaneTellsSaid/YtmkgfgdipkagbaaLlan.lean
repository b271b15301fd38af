import Derived.Test.YtmkgfgdipkagbaaWb
import Derived.Test.YtmkgfgdipkagbaaTyl
import Derived.Test.YtmkgfgdipkagbaaLband
import Derived.Test.YtmkgfgdipkagbaaLinfo
import Derived.Test.YtmkgfgdipkagbaaLinfo2
import Derived.Test.YtmkgfgdipkagbaaLbits
import Derived.Test.YtmkgfgdipkagbaaLtns
import Derived.Test.YtmkgfgdipkagbaaLtnp
import Derived.Test.YtmkgfgdipkagbaaLtnl
namespace Go.Proofs.Ytmkgfgdipkagbaa
set_option linter.unusedVariables false
set_option linter.unusedSimpArgs false
set_option maxRecDepth 10000
open Go Go.Pv


open Go.RowKit
theorem sc_at {ws : List Sc} {k : Nat} (h : k < ws.length) : (Option.map Sc.row ws[k]?).getD [] = [.int .i64 (ws[k]?.getD default).book, .int .i64 (ws[k]?.getD default).len] := by
  rw [List.getElem?_eq_getElem h]; rfl
/-- The book of a band, of a group's sections. -/
def bkL : List Sc → Int → Int × Int
  | [], _ => (0, 2)
  | x :: r, b => if x.len < 1 then bkL r b else if b < x.len then (x.book, 0) else bkL r (b - x.len)
def bkG (se : List (List Sc)) (g b : Int) : Int × Int := if g < 0 ∨ (se.length : Int) ≤ g ∨ b < 0 then (0, 2) else bkL (se[g.toNat]?.getD []) b
theorem bk_drop {l : List Sc} {k : Nat} (h : k < l.length) (b : Int) : bkL (l.drop k) b = if (l[k]?.getD default).len < 1 then bkL (l.drop (k + 1)) b else if b < (l[k]?.getD default).len then ((l[k]?.getD default).book, 0) else bkL (l.drop (k + 1)) (b - (l[k]?.getD default).len) := by
  rw [List.drop_eq_getElem_cons h, bkL, List.getElem?_eq_getElem h]
  rfl
theorem bk_end {l : List Sc} {k : Nat} (h : l.length ≤ k) (b : Int) : bkL (l.drop k) b = (0, 2) := by
  rw [List.drop_of_length_le h]; rfl
def badS (x : Sc) : Bool := decide (x.len < 1) || (decide (40 < x.len) || (decide (x.book < 0) || (decide (11 < x.book) && !decide (x.book = 13))))
def lenS (l : List Sc) (k : Nat) : Int := ((l.take k).map Sc.len).sum
theorem lenS_succ (l : List Sc) (k : Nat) (h : k < l.length) : lenS l (k + 1) = lenS l k + (l[k]?.getD default).len := by
  unfold lenS
  rw [List.take_succ_eq_append_getElem h, List.map_append, List.sum_append, List.getElem?_eq_getElem h]
  simp
def secL (m : Int) (l : List Sc) : Bool := !(l.any badS) && (decide (lenS l l.length = m) && decide (l.length ≤ 40))
def secB (m : Int) (g : List Int) (se : List (List Sc)) : Bool := decide (se.length = g.length) && se.all (secL m)
theorem badS_no {x : Sc} (h : badS x = false) : (1 ≤ x.len ∧ x.len ≤ 40) ∧ 0 ≤ x.book ∧ (x.book ≤ 11 ∨ x.book = 13) := by
  unfold badS at h
  simp only [Bool.or_eq_false_iff, decide_eq_false_iff_not, Bool.and_eq_false_iff, Bool.not_eq_false', decide_eq_true_eq] at h
  obtain ⟨h1, h2, h3, h4⟩ := h
  refine ⟨by omega, by omega, ?_⟩
  rcases h4 with h | h
  · exact .inl (by omega)
  · exact .inr h
theorem secL_yes {m : Int} {l : List Sc} {j : Nat} (hj : l.length ≤ j) (h : ∀ i < j, badS (l[i]?.getD default) = false) (hs : lenS l j = m) (hl : l.length ≤ 40) : secL m l = true := by
  unfold secL
  rw [any_no hj h]
  have : lenS l l.length = m := by rw [← hs]; unfold lenS; rw [List.take_length, List.take_of_length_le hj]
  rw [decide_eq_true this, decide_eq_true hl]
  rfl
theorem secL_bad {m : Int} {l : List Sc} {j : Nat} (hj : j < l.length) (h : badS (l[j]?.getD default) = true) : secL m l = false := by
  unfold secL
  rw [any_at hj h]
  rfl
theorem secL_no {m : Int} {l : List Sc} {j : Nat} (hj : l.length ≤ j) (h : ¬ lenS l j = m ∨ 40 < l.length) : secL m l = false := by
  unfold secL
  have e : lenS l l.length = lenS l j := by unfold lenS; rw [List.take_length, List.take_of_length_le hj]
  rw [e]
  rcases h with h | h
  · rw [decide_eq_false h]; simp
  · rw [decide_eq_false (by omega : ¬ l.length ≤ 40)]; simp
theorem secB_one {m : Int} {g : List Int} {se : List (List Sc)} {k : Nat} (hk : k < se.length) (h : secL m (se[k]?.getD []) = false) : secB m g se = false := by
  unfold secB
  have : se.all (secL m) = false := by
    rw [List.all_eq_false]
    exact ⟨_, mem_at hk, by rw [show se[k]?.getD default = se[k]?.getD [] from rfl, h]; simp⟩
  rw [this, Bool.and_false]
theorem all_yes {α : Type} [Inhabited α] {p : α → Bool} {xs : List α} {k : Nat} (hk : xs.length ≤ k) (h : ∀ j < k, p (xs[j]?.getD default) = true) : xs.all p = true := by
  rw [List.all_eq_true]
  intro x hx
  obtain ⟨j, hj, rfl⟩ := List.getElem_of_mem hx
  have := h j (by omega)
  rwa [List.getElem?_eq_getElem hj] at this
theorem secB_all {m : Int} {g : List Int} {se : List (List Sc)} {k : Nat} (hg : se.length = g.length) (hk : se.length ≤ k) (h : ∀ i < k, secL m (se[i]?.getD []) = true) : secB m g se = true := by
  unfold secB
  rw [decide_eq_true hg, all_yes hk h]
  rfl
theorem secB_len {m : Int} {g : List Int} {se : List (List Sc)} (hg : ¬ se.length = g.length) : secB m g se = false := by
  unfold secB
  rw [decide_eq_false hg, Bool.false_and]
def nearB (was now : Int) : Bool := decide (was - 60 ≤ now) && decide (now ≤ was + 60)
structure Zs where
  last : Int
  noise : Int
  on : Bool
def stp1 (book n : Int) (z : Zs) : Option Zs :=
  if book = 0 ∧ ¬ n = 0 then none
  else if book = 13 then (if n < 0 ∨ 511 < n ∨ (z.on = true ∧ nearB z.noise n = false) then none else some ⟨z.last, n, true⟩)
  else if 0 < book then (if n < 0 ∨ 255 < n ∨ nearB z.last n = false then none else some ⟨n, z.noise, z.on⟩)
  else some z
def rowZ (se : List (List Sc)) (g : Int) : List Int → Int → Zs → Option Zs
  | [], _, z => some z
  | n :: r, b, z => (stp1 (bkG se g b).1 n z).bind (rowZ se g r (b + 1))
def allZ (se : List (List Sc)) (m : Int) : List (List Int) → Int → Zs → Option Zs
  | [], _, z => some z
  | row :: r, g, z => if (row.length : Int) = m then (rowZ se g row 0 z).bind (allZ se m r (g + 1)) else none
def stpB (ga m : Int) (g : List Int) (se : List (List Sc)) (st : List (List Int)) : Bool := decide (st.length = g.length) && (allZ se m st 0 ⟨ga, 0, false⟩).isSome
def nxZ (book n : Int) (z : Zs) : Zs := if book = 13 then ⟨z.last, n, true⟩ else if 0 < book then ⟨n, z.noise, z.on⟩ else z
def ZOk (z : Zs) : Prop := (0 ≤ z.last ∧ z.last ≤ 255) ∧ 0 ≤ z.noise ∧ z.noise ≤ 511
theorem stp1_ok {book n : Int} {z z' : Zs} (hz : ZOk z) (h : stp1 book n z = some z') : ZOk z' := by
  unfold stp1 at h
  split at h
  · cases h
  · split at h
    · split at h
      · cases h
      · cases h
        exact ⟨hz.1, by show 0 ≤ n ∧ n ≤ 511; omega⟩
    · split at h
      · split at h
        · cases h
        · cases h
          exact ⟨by show 0 ≤ n ∧ n ≤ 255; omega, hz.2⟩
      · cases h
        exact hz
theorem stp_nil {book n : Int} {z : Zs} (h : book = 0 ∧ ¬ n = 0) : stp1 book n z = none := if_pos h
theorem stp_13n {book n : Int} {z : Zs} (h0 : book = 0 → n = 0) (hb : book = 13) (h : (n < 0 ∨ 511 < n) ∨ z.on = true ∧ nearB z.noise n = false) : stp1 book n z = none := by
  unfold stp1
  rw [if_neg (fun h => h.2 (h0 h.1)), if_pos hb, if_pos (by rcases h with (h | h) | h; exact .inl h; exact .inr (.inl h); exact .inr (.inr h))]
theorem stp_13y {book n : Int} {z : Zs} (h0 : book = 0 → n = 0) (hb : book = 13) (h : (0 ≤ n ∧ n ≤ 511) ∧ (z.on = true → nearB z.noise n = true)) : stp1 book n z = some (nxZ book n z) := by
  unfold stp1 nxZ
  rw [if_neg (fun h => h.2 (h0 h.1)), if_pos hb, if_pos hb, if_neg]
  rintro (h1 | h1 | ⟨h1, h2⟩)
  · omega
  · omega
  · rw [h.2 h1] at h2; cases h2
theorem stp_pn {book n : Int} {z : Zs} (h0 : book = 0 → n = 0) (hb : ¬ book = 13) (hp : 0 < book) (h : (n < 0 ∨ 255 < n) ∨ nearB z.last n = false) : stp1 book n z = none := by
  unfold stp1
  rw [if_neg (fun h => h.2 (h0 h.1)), if_neg hb, if_pos hp, if_pos (by rcases h with (h | h) | h; exact .inl h; exact .inr (.inl h); exact .inr (.inr h))]
theorem stp_py {book n : Int} {z : Zs} (h0 : book = 0 → n = 0) (hb : ¬ book = 13) (hp : 0 < book) (h : (0 ≤ n ∧ n ≤ 255) ∧ nearB z.last n = true) : stp1 book n z = some (nxZ book n z) := by
  unfold stp1 nxZ
  rw [if_neg (fun h => h.2 (h0 h.1)), if_neg hb, if_neg hb, if_pos hp, if_pos hp, if_neg]
  rintro (h1 | h1 | h2)
  · omega
  · omega
  · rw [h.2] at h2; cases h2
theorem stp_0y {book n : Int} {z : Zs} (h0 : book = 0 → n = 0) (hb : ¬ book = 13) (hp : book ≤ 0) : stp1 book n z = some (nxZ book n z) := by
  unfold stp1 nxZ
  rw [if_neg (fun h => h.2 (h0 h.1)), if_neg hb, if_neg hb, if_neg (by omega), if_neg (by omega)]
theorem stp_bad {ga m : Int} {g : List Int} {se : List (List Sc)} {st : List (List Int)} (h : allZ se m st 0 (Zs.mk ga 0 false) = none) : stpB ga m g se st = false := by
  unfold stpB
  rw [h]
  simp
theorem stp_len {ga m : Int} {g : List Int} {se : List (List Sc)} {st : List (List Int)} (h : ¬ st.length = g.length) : stpB ga m g se st = false := by
  unfold stpB
  rw [decide_eq_false h, Bool.false_and]
theorem stp_all {ga m : Int} {g : List Int} {se : List (List Sc)} {st : List (List Int)} {z : Zs} (hg : st.length = g.length) (h : allZ se m st 0 (Zs.mk ga 0 false) = some z) : stpB ga m g se st = true := by
  unfold stpB
  rw [h, decide_eq_true hg]
  rfl
theorem row_drop {se : List (List Sc)} {g : Int} {row : List Int} {j : Nat} (h : j < row.length) (z : Zs) : rowZ se g (row.drop j) (j : Nat) z = (stp1 (bkG se g (j : Nat)).1 (row[j]?.getD 0) z).bind (rowZ se g (row.drop (j + 1)) ((j + 1 : Nat) : Int)) := by
  rw [List.drop_eq_getElem_cons h, rowZ, List.getElem?_eq_getElem h]
  push_cast
  rfl
theorem row_end {se : List (List Sc)} {g : Int} {row : List Int} {j : Nat} (h : row.length ≤ j) (z : Zs) : rowZ se g (row.drop j) (j : Nat) z = some z := by
  rw [List.drop_of_length_le h]; rfl
theorem all_drop {se : List (List Sc)} {m : Int} {st : List (List Int)} {j : Nat} (h : j < st.length) (z : Zs) : allZ se m (st.drop j) (j : Nat) z = if ((st[j]?.getD []).length : Int) = m then (rowZ se (j : Nat) (st[j]?.getD []) 0 z).bind (allZ se m (st.drop (j + 1)) ((j + 1 : Nat) : Int)) else none := by
  rw [List.drop_eq_getElem_cons h, allZ, List.getElem?_eq_getElem h]
  push_cast
  rfl
theorem all_end {se : List (List Sc)} {m : Int} {st : List (List Int)} {j : Nat} (h : st.length ≤ j) (z : Zs) : allZ se m (st.drop j) (j : Nat) z = some z := by
  rw [List.drop_of_length_le h]; rfl

attribute [local simp] runs gd step1 need evu un opnds opv ev cst cst1 cstL getT getH putT onL nxt argT cellsOf PV.one thn inBlk jmp fldP ldP ldC live Cells.len Cells.get Cells.w sug ldv bin eqF eq1 ops2 sh2 binv Tk.agg stC apC rdS apS mvL zp argsP idx fillP toInts chunks mkC ixS ixA oidx slP sl0 mxF bltn frzA frz frzL frz1 pur1 Cells.pur PV.scal scal1 runD rdO PV.ids id1 zids ety Eff.on cnd minb and1b ifmax ifmin mxv sugI strv w0 w1 w2 wm1
theorem lane_Book_ok (se : List (List Sc)) (gi b : Int) (hs : ∀ w ∈ se, w.length ≤ 1000) (hb : -9223372036854775808 ≤ b ∧ b ≤ 9223372036854775807) : PCall Try.prog 27 [.ro (.rows 1 (se.map fun w => [.ro (.rows 2 (w.map Sc.row))])), .int .i64 gi, .int .i64 b] (.tup [.int .i64 (bkG se gi b).1, .int .i64 (bkG se gi b).2]) := by
  refine pcall_body ty_ok Try.func27 rfl (by rfl) (by simp) ?_
  rw [Try.ntmps27]
  refine swp_seq fun K1 hK1 => ?_
  refine swp_region ty_ok ?_
  try simp (maxSteps := 1000000)
  repeat' (first | apply And.intro | intro _)
  any_goals (first | (refine hK1 _ ?_; clear hK1) | (first | omega | (simp only [IntKind.wrap_i64] at *; omega) | (simp_all; done) | (simp_all; omega)))
  refine swp_seq fun K2 hK2 => ?_
  refine swp_seq fun K3 hK3 => ?_
  refine swp_region ty_ok ?_
  try simp (maxSteps := 1000000)
  repeat' (first | apply And.intro | intro _)
  any_goals (first | (refine hK3 _ ?_; clear hK3) | (first | omega | (simp only [IntKind.wrap_i64] at *; omega) | (simp_all; done) | (simp_all; omega)))
  refine swp_if fun C4 hC4 => ?_
  try simp (maxSteps := 1000000)
  refine hC4 _ (fun hc4 => ?_) (fun hc4 => ?_)
  · clear hC4
    try simp at hc4
    refine swp_seq fun K5 hK5 => ?_
    refine swp_region ty_ok ?_
    try simp (maxSteps := 1000000)
    repeat' (first | apply And.intro | intro _)
    any_goals (first | (refine hK5 _ ?_; clear hK5) | (first | omega | (simp only [IntKind.wrap_i64] at *; omega) | (simp_all; done) | (simp_all; omega)))
    refine swp_ret ?_
    simp [fnPost, Try.results27, resP, tupOf]
    rw [bkG, if_pos (by omega)]; exact ⟨rfl, rfl⟩
  · clear hC4
    try simp at hc4
    refine swp_skip ?_
    simp only [thn, inBlk]
    refine hK2 _ ?_; clear hK2
    refine swp_seq fun K6 hK6 => ?_
    refine swp_seq fun K7 hK7 => ?_
    have hrow := s_at (l := se) (k := gi.toNat) (by omega)
    have hGl : (se[gi.toNat]?.getD []).length ≤ 1000 := hs _ (mem_at (w := se) (by omega))
    refine swp_region ty_ok ?_
    try simp (maxSteps := 1000000) [hrow]
    repeat' (first | apply And.intro | intro _)
    any_goals (first | (refine hK7 _ ?_; clear hK7) | (first | omega | (simp only [IntKind.wrap_i64] at *; omega) | (simp_all; done) | (simp_all; omega)))
    refine swp_block ?_
    refine swp_loop 0 (fun m_ s_ => ∃ (k : Nat) (y : Int), (k ≤ (se[gi.toNat]?.getD []).length) ∧ (0 ≤ y ∧ y ≤ 9223372036854775807) ∧ (bkL ((se[gi.toNat]?.getD []).drop k) y = bkG se gi b) ∧ s_ = ⟨[(2, .int .i64 y), (25, .ro (.rows 2 ((se[gi.toNat]?.getD []).map Sc.row))), (26, .int .i64 ((se[gi.toNat]?.getD []).length : Nat)), (27, .int .i64 (k : Nat))], [], 0⟩ ∧ m_ = (se[gi.toNat]?.getD []).length - k) _ ⟨[(2, .int .i64 b), (25, .ro (.rows 2 ((se[gi.toNat]?.getD []).map Sc.row))), (26, .int .i64 ((se[gi.toNat]?.getD []).length : Nat)), (27, .int .i64 (0 : Nat))], [], 0⟩ ⟨by simp [getT, PV.lo, lo1], by simp [getH, Blk.lo, Cells.lo, lo1], rfl, by omega⟩ ⟨(0), (b), by omega, by omega, by (rw [bkG, if_neg (by omega)]; rfl), rfl, rfl⟩ ?_
    rintro m_ s_ ⟨k, y, hL8_0, hL8_1, hL8_2, rfl, rfl⟩ KL8 hL8
    have hkw : IntKind.i64.wrap ((k : Int) + 1) = (((k + 1 : Nat)) : Int) := wnext (by omega)
    refine swp_seq fun K9 hK9 => ?_
    refine swp_region ty_ok ?_
    try simp (maxSteps := 1000000)
    repeat' (first | apply And.intro | intro _)
    any_goals (first | (refine hK9 _ ?_; clear hK9) | (first | omega | (simp only [IntKind.wrap_i64] at *; omega) | (simp_all; done) | (simp_all; omega)))
    refine swp_seq fun K10 hK10 => ?_
    refine swp_if fun C11 hC11 => ?_
    try simp (maxSteps := 1000000)
    refine hC11 _ (fun hc11 => ?_) (fun hc11 => ?_)
    · clear hC11
      try simp at hc11
      refine swp_skip ?_
      simp only [thn, inBlk]
      refine hK10 _ ?_; clear hK10
      refine swp_seq fun K12 hK12 => ?_
      refine swp_block ?_
      refine swp_seq fun K13 hK13 => ?_
      have hrk := sc_at (ws := (se[gi.toNat]?.getD [])) (k := k) (by omega)
      have hbd := bk_drop (l := (se[gi.toNat]?.getD [])) (k := k) (by omega) y
      refine swp_region ty_ok ?_
      try simp (maxSteps := 1000000) [hrk]
      repeat' (first | apply And.intro | intro _)
      any_goals (first | (refine hK13 _ ?_; clear hK13) | (first | omega | (simp only [IntKind.wrap_i64] at *; omega) | (simp_all; done) | (simp_all; omega)))
      refine swp_seq fun K14 hK14 => ?_
      refine swp_seq fun K15 hK15 => ?_
      refine swp_region ty_ok ?_
      try simp (maxSteps := 1000000)
      repeat' (first | apply And.intro | intro _)
      any_goals (first | (refine hK15 _ ?_; clear hK15) | (first | omega | (simp only [IntKind.wrap_i64] at *; omega) | (simp_all; done) | (simp_all; omega)))
      refine swp_if fun C16 hC16 => ?_
      try simp (maxSteps := 1000000)
      refine hC16 _ (fun hc16 => ?_) (fun hc16 => ?_)
      · clear hC16
        try simp at hc16
        refine swp_exit ?_
        simp [thn, inBlk]
        refine hK12 _ ?_; clear hK12
        refine swp_region ty_ok ?_
        try simp (maxSteps := 1000000)
        repeat' apply And.intro
        any_goals (try omega)
        refine hL8 _ ⟨[(2, .int .i64 (if ((se[gi.toNat]?.getD [])[k]?.getD default).len < 1 then y else y - ((se[gi.toNat]?.getD [])[k]?.getD default).len)), (25, .ro (.rows 2 ((se[gi.toNat]?.getD []).map Sc.row))), (26, .int .i64 ((se[gi.toNat]?.getD []).length : Nat)), (27, .int .i64 ((k + 1) : Nat))], [], 0⟩ _ ?_ ⟨(k + 1), (if ((se[gi.toNat]?.getD [])[k]?.getD default).len < 1 then y else y - ((se[gi.toNat]?.getD [])[k]?.getD default).len), by omega, by (split <;> omega), by (rw [← (by assumption : bkL (List.drop k (se[gi.toNat]?.getD [])) y = bkG se gi b), hbd]; first | rw [if_pos (by omega), if_pos (by omega)] | rw [if_neg (by omega), if_neg (by omega), if_neg (by omega)]), rfl, rfl⟩ ⟨by (simp [getT, PV.lo, lo1, hkw]; first | (intro _; omega) | rw [if_pos (by omega)] | rw [if_neg (by omega), w64 (by omega)]), by simp [getH, Blk.lo, Cells.lo, lo1], rfl, by omega⟩
        omega
      · clear hC16
        try simp at hc16
        refine swp_skip ?_
        simp only [thn, inBlk]
        refine hK14 _ ?_; clear hK14
        refine swp_seq fun K17 hK17 => ?_
        refine swp_seq fun K18 hK18 => ?_
        refine swp_region ty_ok ?_
        try simp (maxSteps := 1000000)
        repeat' (first | apply And.intro | intro _)
        any_goals (first | (refine hK18 _ ?_; clear hK18) | (first | omega | (simp only [IntKind.wrap_i64] at *; omega) | (simp_all; done) | (simp_all; omega)))
        refine swp_if fun C19 hC19 => ?_
        try simp (maxSteps := 1000000)
        refine hC19 _ (fun hc19 => ?_) (fun hc19 => ?_)
        · clear hC19
          try simp at hc19
          refine swp_seq fun K20 hK20 => ?_
          refine swp_region ty_ok ?_
          try simp (maxSteps := 1000000)
          repeat' (first | apply And.intro | intro _)
          any_goals (first | (refine hK20 _ ?_; clear hK20) | (first | omega | (simp only [IntKind.wrap_i64] at *; omega) | (simp_all; done) | (simp_all; omega)))
          refine swp_ret ?_
          simp [fnPost, Try.results27, resP, tupOf]
          rw [← (by assumption : bkL (List.drop k (se[gi.toNat]?.getD [])) y = bkG se gi b), hbd, if_neg (by omega), if_pos (by omega)]; exact ⟨rfl, rfl⟩
        · clear hC19
          try simp at hc19
          refine swp_skip ?_
          simp only [thn, inBlk]
          refine hK17 _ ?_; clear hK17
          refine swp_region ty_ok ?_
          try simp (maxSteps := 1000000)
          repeat' (first | apply And.intro | intro _)
          any_goals (first | (refine hK12 _ ?_; clear hK12) | (first | omega | (simp only [IntKind.wrap_i64] at *; omega) | (simp_all; done) | (simp_all; omega)))
          refine swp_region ty_ok ?_
          try simp (maxSteps := 1000000)
          repeat' apply And.intro
          any_goals (try omega)
          refine hL8 _ ⟨[(2, .int .i64 (if ((se[gi.toNat]?.getD [])[k]?.getD default).len < 1 then y else y - ((se[gi.toNat]?.getD [])[k]?.getD default).len)), (25, .ro (.rows 2 ((se[gi.toNat]?.getD []).map Sc.row))), (26, .int .i64 ((se[gi.toNat]?.getD []).length : Nat)), (27, .int .i64 ((k + 1) : Nat))], [], 0⟩ _ ?_ ⟨(k + 1), (if ((se[gi.toNat]?.getD [])[k]?.getD default).len < 1 then y else y - ((se[gi.toNat]?.getD [])[k]?.getD default).len), by omega, by (split <;> omega), by (rw [← (by assumption : bkL (List.drop k (se[gi.toNat]?.getD [])) y = bkG se gi b), hbd]; first | rw [if_pos (by omega), if_pos (by omega)] | rw [if_neg (by omega), if_neg (by omega), if_neg (by omega)]), rfl, rfl⟩ ⟨by (simp [getT, PV.lo, lo1, hkw]; first | (intro _; omega) | rw [if_pos (by omega)] | rw [if_neg (by omega), w64 (by omega)]), by simp [getH, Blk.lo, Cells.lo, lo1], rfl, by omega⟩
          omega
    · clear hC11
      try simp at hc11
      refine swp_exit ?_
      simp [thn, inBlk]
      refine hK6 _ ?_; clear hK6
      refine swp_seq fun K21 hK21 => ?_
      refine swp_region ty_ok ?_
      try simp (maxSteps := 1000000)
      repeat' (first | apply And.intro | intro _)
      any_goals (first | (refine hK21 _ ?_; clear hK21) | (first | omega | (simp only [IntKind.wrap_i64] at *; omega) | (simp_all; done) | (simp_all; omega)))
      refine swp_ret ?_
      simp [fnPost, Try.results27, resP, tupOf]
      rw [← (by assumption : bkL (List.drop k (se[gi.toNat]?.getD [])) y = bkG se gi b), bk_end (by omega)]; exact ⟨rfl, rfl⟩

set_option maxHeartbeats 2000000 in
theorem lane_sections_ok (ga s sh m : Int) (g : List Int) (se : List (List Sc)) (st : List (List Int)) (tn : List (List Fl)) (ln : List Int) (hl : g.length ≤ 1000 ∧ se.length ≤ 1000) (hs : ∀ w ∈ se, w.length ≤ 1000) : PCall Try.prog 72 [.agg [.int .i64 ga, .int .u8 s, .int .u8 sh, .int .i64 m, .ro (.ints .i64 g), .ro (.rows 1 (se.map fun w => [.ro (.rows 2 (w.map Sc.row))])), .ro (.rows 1 (st.map fun w => [.ro (.ints .i64 w)])), .ro (.rows 1 (tn.map fun w => [.ro (.rows 5 (w.map Fl.row))])), .ro (.ints .i64 ln)]] (.bool (secB m g se)) := by
  refine pcall_body ty_ok Try.func72 rfl (by rfl) (by simp) ?_
  rw [Try.ntmps72]
  refine swp_seq fun K1 hK1 => ?_
  refine swp_region ty_ok ?_
  try simp (maxSteps := 1000000)
  repeat' (first | apply And.intro | intro _)
  any_goals (first | (refine hK1 _ ?_; clear hK1) | (first | omega | (simp only [IntKind.wrap_i64] at *; omega) | (simp_all; done) | (simp_all; omega)))
  refine swp_seq fun K2 hK2 => ?_
  refine swp_seq fun K3 hK3 => ?_
  refine swp_region ty_ok ?_
  try simp (maxSteps := 1000000)
  repeat' (first | apply And.intro | intro _)
  any_goals (first | (refine hK3 _ ?_; clear hK3) | (first | omega | (simp only [IntKind.wrap_i64] at *; omega) | (simp_all; done) | (simp_all; omega)))
  refine swp_if fun C4 hC4 => ?_
  try simp (maxSteps := 1000000)
  refine hC4 _ (fun hc4 => ?_) (fun hc4 => ?_)
  · clear hC4
    try simp at hc4
    refine swp_seq fun K5 hK5 => ?_
    refine swp_region ty_ok ?_
    try simp (maxSteps := 1000000)
    repeat' (first | apply And.intro | intro _)
    any_goals (first | (refine hK5 _ ?_; clear hK5) | (first | omega | (simp only [IntKind.wrap_i64] at *; omega) | (simp_all; done) | (simp_all; omega)))
    refine swp_ret ?_
    simp [fnPost, Try.results72, resP, tupOf]
    exact secB_len (by omega)
  · clear hC4
    try simp at hc4
    refine swp_skip ?_
    simp only [thn, inBlk]
    refine hK2 _ ?_; clear hK2
    refine swp_seq fun K6 hK6 => ?_
    refine swp_seq fun K7 hK7 => ?_
    refine swp_region ty_ok ?_
    try simp (maxSteps := 1000000)
    repeat' (first | apply And.intro | intro _)
    any_goals (first | (refine hK7 _ ?_; clear hK7) | (first | omega | (simp only [IntKind.wrap_i64] at *; omega) | (simp_all; done) | (simp_all; omega)))
    refine swp_block ?_
    refine swp_loop 1 (fun m_ s_ => ∃ (k : Nat), (k ≤ se.length) ∧ (∀ i < k, secL m (se[i]?.getD []) = true) ∧ s_ = ⟨[(1, .ptr 0 0 0 1), (17, .ro (.rows 1 (se.map fun w => [.ro (.rows 2 (w.map Sc.row))]))), (18, .int .i64 (se.length : Nat)), (19, .int .i64 (k : Nat))], [(0, some ⟨.rows 9 [[.int .i64 ga, .int .u8 s, .int .u8 sh, .int .i64 m, .ro (.ints .i64 g), .ro (.rows 1 (se.map fun w => [.ro (.rows 2 (w.map Sc.row))])), .ro (.rows 1 (st.map fun w => [.ro (.ints .i64 w)])), .ro (.rows 1 (tn.map fun w => [.ro (.rows 5 (w.map Fl.row))])), .ro (.ints .i64 ln)]], true, 29⟩)], 1⟩ ∧ m_ = se.length - k) _ ⟨[(1, .ptr 0 0 0 1), (17, .ro (.rows 1 (se.map fun w => [.ro (.rows 2 (w.map Sc.row))]))), (18, .int .i64 (se.length : Nat)), (19, .int .i64 (0 : Nat))], [(0, some ⟨.rows 9 [[.int .i64 ga, .int .u8 s, .int .u8 sh, .int .i64 m, .ro (.ints .i64 g), .ro (.rows 1 (se.map fun w => [.ro (.rows 2 (w.map Sc.row))])), .ro (.rows 1 (st.map fun w => [.ro (.ints .i64 w)])), .ro (.rows 1 (tn.map fun w => [.ro (.rows 5 (w.map Fl.row))])), .ro (.ints .i64 ln)]], true, 29⟩)], 1⟩ ⟨by simp [getT, PV.lo, lo1], by simp [getH, Blk.lo, Cells.lo, lo1], rfl, by omega⟩ ⟨(0), by omega, by simp, rfl, rfl⟩ ?_
    rintro m_ s_ ⟨k, hL8_0, hL8_1, rfl, rfl⟩ KL8 hL8
    have hkw : IntKind.i64.wrap ((k : Int) + 1) = (((k + 1 : Nat)) : Int) := wnext (by omega)
    refine swp_seq fun K9 hK9 => ?_
    refine swp_region ty_ok ?_
    try simp (maxSteps := 1000000)
    repeat' (first | apply And.intro | intro _)
    any_goals (first | (refine hK9 _ ?_; clear hK9) | (first | omega | (simp only [IntKind.wrap_i64] at *; omega) | (simp_all; done) | (simp_all; omega)))
    refine swp_seq fun K10 hK10 => ?_
    refine swp_if fun C11 hC11 => ?_
    try simp (maxSteps := 1000000)
    refine hC11 _ (fun hc11 => ?_) (fun hc11 => ?_)
    · clear hC11
      try simp at hc11
      refine swp_skip ?_
      simp only [thn, inBlk]
      refine hK10 _ ?_; clear hK10
      refine swp_seq fun K12 hK12 => ?_
      refine swp_block ?_
      refine swp_seq fun K13 hK13 => ?_
      have hrow := s_at (l := se) (k := k) (by omega)
      have hmk : (se[k]?.getD []) ∈ se := mem_at (by omega)
      have hsl := hs _ hmk
      refine swp_region ty_ok ?_
      try simp (maxSteps := 1000000) [hrow]
      repeat' (first | apply And.intro | intro _)
      any_goals (first | (refine hK13 _ ?_; clear hK13) | (first | omega | (simp only [IntKind.wrap_i64] at *; omega) | (simp_all; done) | (simp_all; omega)))
      refine swp_seq fun K14 hK14 => ?_
      refine swp_region ty_ok ?_
      try simp (maxSteps := 1000000)
      repeat' (first | apply And.intro | intro _)
      any_goals (first | (refine hK14 _ ?_; clear hK14) | (first | omega | (simp only [IntKind.wrap_i64] at *; omega) | (simp_all; done) | (simp_all; omega)))
      refine swp_seq fun K15 hK15 => ?_
      refine swp_seq fun K16 hK16 => ?_
      refine swp_region ty_ok ?_
      try simp (maxSteps := 1000000)
      repeat' (first | apply And.intro | intro _)
      any_goals (first | (refine hK16 _ ?_; clear hK16) | (first | omega | (simp only [IntKind.wrap_i64] at *; omega) | (simp_all; done) | (simp_all; omega)))
      refine swp_block ?_
      refine swp_loop 1 (fun m_ s_ => ∃ (j : Nat), (j ≤ (se[k]?.getD []).length) ∧ (∀ i < j, badS ((se[k]?.getD [])[i]?.getD default) = false) ∧ (0 ≤ lenS (se[k]?.getD []) j ∧ lenS (se[k]?.getD []) j ≤ 40 * (j : Int)) ∧ s_ = ⟨[(1, .ptr 0 0 0 1), (17, .ro (.rows 1 (se.map fun w => [.ro (.rows 2 (w.map Sc.row))]))), (18, .int .i64 (se.length : Nat)), (19, .int .i64 (k : Nat)), (4, .ro (.rows 2 ((se[k]?.getD []).map Sc.row))), (5, .int .i64 (lenS (se[k]?.getD []) j)), (23, .ro (.rows 2 ((se[k]?.getD []).map Sc.row))), (24, .int .i64 ((se[k]?.getD []).length : Nat)), (25, .int .i64 (j : Nat))], [(0, some ⟨.rows 9 [[.int .i64 ga, .int .u8 s, .int .u8 sh, .int .i64 m, .ro (.ints .i64 g), .ro (.rows 1 (se.map fun w => [.ro (.rows 2 (w.map Sc.row))])), .ro (.rows 1 (st.map fun w => [.ro (.ints .i64 w)])), .ro (.rows 1 (tn.map fun w => [.ro (.rows 5 (w.map Fl.row))])), .ro (.ints .i64 ln)]], true, 29⟩)], 1⟩ ∧ m_ = (se[k]?.getD []).length - j) _ ⟨[(1, .ptr 0 0 0 1), (17, .ro (.rows 1 (se.map fun w => [.ro (.rows 2 (w.map Sc.row))]))), (18, .int .i64 (se.length : Nat)), (19, .int .i64 (k : Nat)), (4, .ro (.rows 2 ((se[k]?.getD []).map Sc.row))), (5, .int .i64 (lenS (se[k]?.getD []) 0)), (23, .ro (.rows 2 ((se[k]?.getD []).map Sc.row))), (24, .int .i64 ((se[k]?.getD []).length : Nat)), (25, .int .i64 (0 : Nat))], [(0, some ⟨.rows 9 [[.int .i64 ga, .int .u8 s, .int .u8 sh, .int .i64 m, .ro (.ints .i64 g), .ro (.rows 1 (se.map fun w => [.ro (.rows 2 (w.map Sc.row))])), .ro (.rows 1 (st.map fun w => [.ro (.ints .i64 w)])), .ro (.rows 1 (tn.map fun w => [.ro (.rows 5 (w.map Fl.row))])), .ro (.ints .i64 ln)]], true, 29⟩)], 1⟩ ⟨by simp [getT, PV.lo, lo1, lenS], by simp [getH, Blk.lo, Cells.lo, lo1], rfl, by omega⟩ ⟨(0), by omega, by simp, by simp [lenS], rfl, rfl⟩ ?_
      rintro m_ s_ ⟨j, hL17_0, hL17_1, hL17_2, rfl, rfl⟩ KL17 hL17
      have hjw : IntKind.i64.wrap ((j : Int) + 1) = (((j + 1 : Nat)) : Int) := wnext (by omega)
      refine swp_seq fun K18 hK18 => ?_
      refine swp_region ty_ok ?_
      try simp (maxSteps := 1000000)
      repeat' (first | apply And.intro | intro _)
      any_goals (first | (refine hK18 _ ?_; clear hK18) | (first | omega | (simp only [IntKind.wrap_i64] at *; omega) | (simp_all; done) | (simp_all; omega)))
      refine swp_seq fun K19 hK19 => ?_
      refine swp_if fun C20 hC20 => ?_
      try simp (maxSteps := 1000000)
      refine hC20 _ (fun hc20 => ?_) (fun hc20 => ?_)
      · clear hC20
        try simp at hc20
        refine swp_skip ?_
        simp only [thn, inBlk]
        refine hK19 _ ?_; clear hK19
        refine swp_seq fun K21 hK21 => ?_
        refine swp_block ?_
        refine swp_seq fun K22 hK22 => ?_
        have hrj := sc_at (ws := (se[k]?.getD [])) (k := j) (by omega)
        have hls := lenS_succ (se[k]?.getD []) j (by omega)
        refine swp_region ty_ok ?_
        try simp (maxSteps := 1000000) [hrj]
        repeat' (first | apply And.intro | intro _)
        any_goals (first | (refine hK22 _ ?_; clear hK22) | (first | omega | (simp only [IntKind.wrap_i64] at *; omega) | (simp_all; done) | (simp_all; omega)))
        refine swp_seq fun K23 hK23 => ?_
        refine swp_seq fun K24 hK24 => ?_
        refine swp_region ty_ok ?_
        refine runs_cut 11 fun R25 hR25 => ?_
        try simp (maxSteps := 1000000) [List.take_succ_cons, List.take_zero, List.drop_succ_cons, List.drop_zero]
        repeat' (first | apply And.intro | intro _)
        any_goals (first | (refine hR25 _ ?_; clear hR25) | (first | omega | (simp only [IntKind.wrap_i64] at *; omega) | (simp_all; done) | (simp_all; omega)))
        try simp (maxSteps := 1000000) [List.take_succ_cons, List.take_zero, List.drop_succ_cons, List.drop_zero]
        repeat' (first | apply And.intro | intro _)
        any_goals (first | (refine hK24 _ ?_; clear hK24) | (first | omega | (simp only [IntKind.wrap_i64] at *; omega) | (simp_all; done) | (simp_all; omega)))
        refine swp_if fun C26 hC26 => ?_
        try simp (maxSteps := 1000000)
        refine hC26 _ (fun hc26 => ?_) (fun hc26 => ?_)
        · clear hC26
          try simp at hc26
          refine swp_seq fun K27 hK27 => ?_
          refine swp_region ty_ok ?_
          try simp (maxSteps := 1000000)
          repeat' (first | apply And.intro | intro _)
          any_goals (first | (refine hK27 _ ?_; clear hK27) | (first | omega | (simp only [IntKind.wrap_i64] at *; omega) | (simp_all; done) | (simp_all; omega)))
          refine swp_ret ?_
          simp [fnPost, Try.results72, resP, tupOf]
          exact secB_one (k := k) (by omega) (secL_bad (j := j) (by omega) (by simpa [badS, and_assoc, or_assoc] using hc26))
        · clear hC26
          try simp at hc26
          refine swp_skip ?_
          simp only [thn, inBlk]
          refine hK23 _ ?_; clear hK23
          have hbj : badS ((se[k]?.getD [])[j]?.getD default) = false := by simpa [badS, and_assoc] using hc26
          have hb40 := badS_no hbj
          refine swp_region ty_ok ?_
          try simp (maxSteps := 1000000)
          repeat' (first | apply And.intro | intro _)
          any_goals (first | (refine hK21 _ ?_; clear hK21) | (first | omega | (simp only [IntKind.wrap_i64] at *; omega) | (simp_all; done) | (simp_all; omega)))
          refine swp_region ty_ok ?_
          try simp (maxSteps := 1000000)
          repeat' apply And.intro
          any_goals (try omega)
          refine hL17 _ ⟨[(1, .ptr 0 0 0 1), (17, .ro (.rows 1 (se.map fun w => [.ro (.rows 2 (w.map Sc.row))]))), (18, .int .i64 (se.length : Nat)), (19, .int .i64 (k : Nat)), (4, .ro (.rows 2 ((se[k]?.getD []).map Sc.row))), (5, .int .i64 (lenS (se[k]?.getD []) (j + 1))), (23, .ro (.rows 2 ((se[k]?.getD []).map Sc.row))), (24, .int .i64 ((se[k]?.getD []).length : Nat)), (25, .int .i64 ((j + 1) : Nat))], [(0, some ⟨.rows 9 [[.int .i64 ga, .int .u8 s, .int .u8 sh, .int .i64 m, .ro (.ints .i64 g), .ro (.rows 1 (se.map fun w => [.ro (.rows 2 (w.map Sc.row))])), .ro (.rows 1 (st.map fun w => [.ro (.ints .i64 w)])), .ro (.rows 1 (tn.map fun w => [.ro (.rows 5 (w.map Fl.row))])), .ro (.ints .i64 ln)]], true, 29⟩)], 1⟩ _ ?_ ⟨(j + 1), by omega, by (refine lt_step (by assumption) hbj), by (rw [hls]; push_cast; omega), rfl, rfl⟩ ⟨by (simp [getT, PV.lo, lo1, hjw, hls]; rw [w64 (by omega)]), by simp [getH, Blk.lo, Cells.lo, lo1], rfl, by omega⟩
          omega
      · clear hC20
        try simp at hc20
        refine swp_exit ?_
        simp [thn, inBlk]
        refine hK15 _ ?_; clear hK15
        refine swp_seq fun K28 hK28 => ?_
        refine swp_region ty_ok ?_
        try simp (maxSteps := 1000000)
        repeat' (first | apply And.intro | intro _)
        any_goals (first | (refine hK28 _ ?_; clear hK28) | (first | omega | (simp only [IntKind.wrap_i64] at *; omega) | (simp_all; done) | (simp_all; omega)))
        refine swp_if fun C29 hC29 => ?_
        try simp (maxSteps := 1000000)
        refine hC29 _ (fun hc29 => ?_) (fun hc29 => ?_)
        · clear hC29
          try simp at hc29
          refine swp_seq fun K30 hK30 => ?_
          refine swp_region ty_ok ?_
          try simp (maxSteps := 1000000)
          repeat' (first | apply And.intro | intro _)
          any_goals (first | (refine hK30 _ ?_; clear hK30) | (first | omega | (simp only [IntKind.wrap_i64] at *; omega) | (simp_all; done) | (simp_all; omega)))
          refine swp_ret ?_
          simp [fnPost, Try.results72, resP, tupOf]
          exact secB_one (k := k) (by omega) (secL_no (j := j) (by omega) (by have := hc29; omega))
        · clear hC29
          try simp at hc29
          refine swp_skip ?_
          simp only [thn, inBlk]
          refine hK12 _ ?_; clear hK12
          refine swp_region ty_ok ?_
          try simp (maxSteps := 1000000)
          repeat' apply And.intro
          any_goals (try omega)
          refine hL8 _ ⟨[(1, .ptr 0 0 0 1), (17, .ro (.rows 1 (se.map fun w => [.ro (.rows 2 (w.map Sc.row))]))), (18, .int .i64 (se.length : Nat)), (19, .int .i64 ((k + 1) : Nat))], [(0, some ⟨.rows 9 [[.int .i64 ga, .int .u8 s, .int .u8 sh, .int .i64 m, .ro (.ints .i64 g), .ro (.rows 1 (se.map fun w => [.ro (.rows 2 (w.map Sc.row))])), .ro (.rows 1 (st.map fun w => [.ro (.ints .i64 w)])), .ro (.rows 1 (tn.map fun w => [.ro (.rows 5 (w.map Fl.row))])), .ro (.ints .i64 ln)]], true, 29⟩)], 1⟩ _ ?_ ⟨(k + 1), by omega, by (refine lt_step (by assumption) ?_; exact secL_yes (j := j) (by omega) (by assumption) (by have := hc29; omega) (by have := hc29; omega)), rfl, rfl⟩ ⟨by simp [getT, PV.lo, lo1, hkw], by simp [getH, Blk.lo, Cells.lo, lo1], rfl, by omega⟩
          omega
    · clear hC11
      try simp at hc11
      refine swp_exit ?_
      simp [thn, inBlk]
      refine hK6 _ ?_; clear hK6
      refine swp_seq fun K31 hK31 => ?_
      refine swp_region ty_ok ?_
      try simp (maxSteps := 1000000)
      repeat' (first | apply And.intro | intro _)
      any_goals (first | (refine hK31 _ ?_; clear hK31) | (first | omega | (simp only [IntKind.wrap_i64] at *; omega) | (simp_all; done) | (simp_all; omega)))
      refine swp_ret ?_
      simp [fnPost, Try.results72, resP, tupOf]
      exact secB_all (k := k) (by omega) (by omega) (by assumption)

theorem lane_near_ok (was now : Int) (h : -1000000 ≤ was ∧ was ≤ 1000000) : PCall Try.prog 95 [.int .i64 was, .int .i64 now] (.bool (nearB was now)) := by
  have h1 : IntKind.i64.wrap (was - 60) = was - 60 := w64 (by omega)
  have h2 : IntKind.i64.wrap (was + 60) = was + 60 := w64 (by omega)
  refine pcall_body ty_ok Try.func95 rfl (by rfl) (by simp) ?_
  rw [Try.ntmps95]
  refine swp_seq fun K1 hK1 => ?_
  refine swp_region ty_ok ?_
  try simp (maxSteps := 1000000) [h1, h2]
  repeat' (first | apply And.intro | intro _)
  any_goals (first | (refine hK1 _ ?_; clear hK1) | (first | omega | (simp only [IntKind.wrap_i64] at *; omega) | (simp_all; done) | (simp_all; omega)))
  refine swp_seq fun K2 hK2 => ?_
  refine swp_region ty_ok ?_
  try simp (maxSteps := 1000000) [h1, h2]
  repeat' (first | apply And.intro | intro _)
  any_goals (first | (refine hK2 _ ?_; clear hK2) | (first | omega | (simp only [IntKind.wrap_i64] at *; omega) | (simp_all; done) | (simp_all; omega)))
  refine swp_ret ?_
  simp [fnPost, Try.results95, resP, tupOf]
  rfl

set_option maxHeartbeats 4000000 in
theorem lane_steps_ok (ga s sh m : Int) (g : List Int) (se : List (List Sc)) (st : List (List Int)) (tn : List (List Fl)) (ln : List Int) (hl : g.length ≤ 1000 ∧ st.length ≤ 1000) (hs : ∀ w ∈ se, w.length ≤ 1000) (ht : ∀ w ∈ st, w.length ≤ 1000) (hga : 0 ≤ ga ∧ ga ≤ 255) : PCall Try.prog 74 [.agg [.int .i64 ga, .int .u8 s, .int .u8 sh, .int .i64 m, .ro (.ints .i64 g), .ro (.rows 1 (se.map fun w => [.ro (.rows 2 (w.map Sc.row))])), .ro (.rows 1 (st.map fun w => [.ro (.ints .i64 w)])), .ro (.rows 1 (tn.map fun w => [.ro (.rows 5 (w.map Fl.row))])), .ro (.ints .i64 ln)]] (.bool (stpB ga m g se st)) := by
  refine pcall_body ty_ok Try.func74 rfl (by rfl) (by simp) ?_
  rw [Try.ntmps74]
  refine swp_seq fun K1 hK1 => ?_
  refine swp_region ty_ok ?_
  try simp (maxSteps := 1000000)
  repeat' (first | apply And.intro | intro _)
  any_goals (first | (refine hK1 _ ?_; clear hK1) | (first | omega | (simp only [IntKind.wrap_i64] at *; omega) | (simp_all; done) | (simp_all; omega)))
  refine swp_seq fun K2 hK2 => ?_
  refine swp_seq fun K3 hK3 => ?_
  refine swp_region ty_ok ?_
  try simp (maxSteps := 1000000)
  repeat' (first | apply And.intro | intro _)
  any_goals (first | (refine hK3 _ ?_; clear hK3) | (first | omega | (simp only [IntKind.wrap_i64] at *; omega) | (simp_all; done) | (simp_all; omega)))
  refine swp_if fun C4 hC4 => ?_
  try simp (maxSteps := 1000000)
  refine hC4 _ (fun hc4 => ?_) (fun hc4 => ?_)
  · clear hC4
    try simp at hc4
    refine swp_seq fun K5 hK5 => ?_
    refine swp_region ty_ok ?_
    try simp (maxSteps := 1000000)
    repeat' (first | apply And.intro | intro _)
    any_goals (first | (refine hK5 _ ?_; clear hK5) | (first | omega | (simp only [IntKind.wrap_i64] at *; omega) | (simp_all; done) | (simp_all; omega)))
    refine swp_ret ?_
    simp [fnPost, Try.results74, resP, tupOf]
    exact stp_len (by omega)
  · clear hC4
    try simp at hc4
    refine swp_skip ?_
    simp only [thn, inBlk]
    refine hK2 _ ?_; clear hK2
    refine swp_seq fun K6 hK6 => ?_
    refine swp_region ty_ok ?_
    try simp (maxSteps := 1000000)
    repeat' (first | apply And.intro | intro _)
    any_goals (first | (refine hK6 _ ?_; clear hK6) | (first | omega | (simp only [IntKind.wrap_i64] at *; omega) | (simp_all; done) | (simp_all; omega)))
    refine swp_seq fun K7 hK7 => ?_
    refine swp_seq fun K8 hK8 => ?_
    refine swp_region ty_ok ?_
    try simp (maxSteps := 1000000)
    repeat' (first | apply And.intro | intro _)
    any_goals (first | (refine hK8 _ ?_; clear hK8) | (first | omega | (simp only [IntKind.wrap_i64] at *; omega) | (simp_all; done) | (simp_all; omega)))
    refine swp_block ?_
    refine swp_loop 1 (fun m_ s_ => ∃ (k : Nat) (z : Zs), (k ≤ st.length) ∧ (ZOk z) ∧ (allZ se m (st.drop k) (k : Nat) z = allZ se m st 0 ⟨ga, 0, false⟩) ∧ s_ = ⟨[(1, .ptr 0 0 0 1), (3, .int .i64 z.last), (4, .int .i64 z.noise), (5, .bool z.on), (23, .ro (.rows 1 (st.map fun w => [.ro (.ints .i64 w)]))), (24, .int .i64 (st.length : Nat)), (25, .int .i64 (k : Nat))], [(0, some ⟨.rows 9 [[.int .i64 ga, .int .u8 s, .int .u8 sh, .int .i64 m, .ro (.ints .i64 g), .ro (.rows 1 (se.map fun w => [.ro (.rows 2 (w.map Sc.row))])), .ro (.rows 1 (st.map fun w => [.ro (.ints .i64 w)])), .ro (.rows 1 (tn.map fun w => [.ro (.rows 5 (w.map Fl.row))])), .ro (.ints .i64 ln)]], true, 29⟩)], 1⟩ ∧ m_ = st.length - k) _ ⟨[(1, .ptr 0 0 0 1), (3, .int .i64 (Zs.mk ga 0 false).last), (4, .int .i64 (Zs.mk ga 0 false).noise), (5, .bool (Zs.mk ga 0 false).on), (23, .ro (.rows 1 (st.map fun w => [.ro (.ints .i64 w)]))), (24, .int .i64 (st.length : Nat)), (25, .int .i64 (0 : Nat))], [(0, some ⟨.rows 9 [[.int .i64 ga, .int .u8 s, .int .u8 sh, .int .i64 m, .ro (.ints .i64 g), .ro (.rows 1 (se.map fun w => [.ro (.rows 2 (w.map Sc.row))])), .ro (.rows 1 (st.map fun w => [.ro (.ints .i64 w)])), .ro (.rows 1 (tn.map fun w => [.ro (.rows 5 (w.map Fl.row))])), .ro (.ints .i64 ln)]], true, 29⟩)], 1⟩ ⟨by simp [getT, PV.lo, lo1], by simp [getH, Blk.lo, Cells.lo, lo1], rfl, by omega⟩ ⟨(0), ((Zs.mk ga 0 false)), by omega, by (exact ⟨hga, by show (0 : Int) ≤ 0 ∧ (0 : Int) ≤ 511; omega⟩), by rfl, rfl, rfl⟩ ?_
    rintro m_ s_ ⟨k, z, hL9_0, hL9_1, hL9_2, rfl, rfl⟩ KL9 hL9
    have hkw : IntKind.i64.wrap ((k : Int) + 1) = (((k + 1 : Nat)) : Int) := wnext (by omega)
    have hz0 := (by assumption : allZ se m (st.drop k) (k : Nat) z = allZ se m st 0 (Zs.mk ga 0 false))
    refine swp_seq fun K10 hK10 => ?_
    refine swp_region ty_ok ?_
    try simp (maxSteps := 1000000)
    repeat' (first | apply And.intro | intro _)
    any_goals (first | (refine hK10 _ ?_; clear hK10) | (first | omega | (simp only [IntKind.wrap_i64] at *; omega) | (simp_all; done) | (simp_all; omega)))
    refine swp_seq fun K11 hK11 => ?_
    refine swp_if fun C12 hC12 => ?_
    try simp (maxSteps := 1000000)
    refine hC12 _ (fun hc12 => ?_) (fun hc12 => ?_)
    · clear hC12
      try simp at hc12
      refine swp_skip ?_
      simp only [thn, inBlk]
      refine hK11 _ ?_; clear hK11
      refine swp_seq fun K13 hK13 => ?_
      refine swp_block ?_
      refine swp_seq fun K14 hK14 => ?_
      have hrow := i_at (l := st) (k := k) (by omega)
      have hrl : (st[k]?.getD []).length ≤ 1000 := ht _ (mem_at (w := st) (by omega))
      have had := all_drop (se := se) (m := m) (st := st) (j := k) (by omega) z
      refine swp_region ty_ok ?_
      try simp (maxSteps := 1000000) [hrow]
      repeat' (first | apply And.intro | intro _)
      any_goals (first | (refine hK14 _ ?_; clear hK14) | (first | omega | (simp only [IntKind.wrap_i64] at *; omega) | (simp_all; done) | (simp_all; omega)))
      refine swp_seq fun K15 hK15 => ?_
      refine swp_seq fun K16 hK16 => ?_
      refine swp_region ty_ok ?_
      try simp (maxSteps := 1000000)
      repeat' (first | apply And.intro | intro _)
      any_goals (first | (refine hK16 _ ?_; clear hK16) | (first | omega | (simp only [IntKind.wrap_i64] at *; omega) | (simp_all; done) | (simp_all; omega)))
      refine swp_if fun C17 hC17 => ?_
      try simp (maxSteps := 1000000)
      refine hC17 _ (fun hc17 => ?_) (fun hc17 => ?_)
      · clear hC17
        try simp at hc17
        refine swp_seq fun K18 hK18 => ?_
        refine swp_region ty_ok ?_
        try simp (maxSteps := 1000000)
        repeat' (first | apply And.intro | intro _)
        any_goals (first | (refine hK18 _ ?_; clear hK18) | (first | omega | (simp only [IntKind.wrap_i64] at *; omega) | (simp_all; done) | (simp_all; omega)))
        refine swp_ret ?_
        simp [fnPost, Try.results74, resP, tupOf]
        refine stp_bad ?_
        rw [← hz0, had, if_neg (by assumption)]
      · clear hC17
        try simp at hc17
        refine swp_skip ?_
        simp only [thn, inBlk]
        refine hK15 _ ?_; clear hK15
        refine swp_seq fun K19 hK19 => ?_
        have hrm := (by assumption : ((st[k]?.getD []).length : Int) = m)
        refine swp_region ty_ok ?_
        try simp (maxSteps := 1000000)
        repeat' (first | apply And.intro | intro _)
        any_goals (first | (refine hK19 _ ?_; clear hK19) | (first | omega | (simp only [IntKind.wrap_i64] at *; omega) | (simp_all; done) | (simp_all; omega)))
        refine swp_block ?_
        refine swp_loop 1 (fun m_ s_ => ∃ (j : Nat) (y : Zs), (j ≤ (st[k]?.getD []).length) ∧ (ZOk y) ∧ (rowZ se (k : Nat) ((st[k]?.getD []).drop j) (j : Nat) y = rowZ se (k : Nat) (st[k]?.getD []) 0 z) ∧ s_ = ⟨[(1, .ptr 0 0 0 1), (3, .int .i64 y.last), (4, .int .i64 y.noise), (5, .bool y.on), (23, .ro (.rows 1 (st.map fun w => [.ro (.ints .i64 w)]))), (24, .int .i64 (st.length : Nat)), (25, .int .i64 (k : Nat)), (6, .int .i64 (k : Nat)), (7, .ro (.ints .i64 (st[k]?.getD []))), (36, .ro (.ints .i64 (st[k]?.getD []))), (37, .int .i64 ((st[k]?.getD []).length : Nat)), (38, .int .i64 (j : Nat))], [(0, some ⟨.rows 9 [[.int .i64 ga, .int .u8 s, .int .u8 sh, .int .i64 m, .ro (.ints .i64 g), .ro (.rows 1 (se.map fun w => [.ro (.rows 2 (w.map Sc.row))])), .ro (.rows 1 (st.map fun w => [.ro (.ints .i64 w)])), .ro (.rows 1 (tn.map fun w => [.ro (.rows 5 (w.map Fl.row))])), .ro (.ints .i64 ln)]], true, 29⟩)], 1⟩ ∧ m_ = (st[k]?.getD []).length - j) _ ⟨[(1, .ptr 0 0 0 1), (3, .int .i64 z.last), (4, .int .i64 z.noise), (5, .bool z.on), (23, .ro (.rows 1 (st.map fun w => [.ro (.ints .i64 w)]))), (24, .int .i64 (st.length : Nat)), (25, .int .i64 (k : Nat)), (6, .int .i64 (k : Nat)), (7, .ro (.ints .i64 (st[k]?.getD []))), (36, .ro (.ints .i64 (st[k]?.getD []))), (37, .int .i64 ((st[k]?.getD []).length : Nat)), (38, .int .i64 (0 : Nat))], [(0, some ⟨.rows 9 [[.int .i64 ga, .int .u8 s, .int .u8 sh, .int .i64 m, .ro (.ints .i64 g), .ro (.rows 1 (se.map fun w => [.ro (.rows 2 (w.map Sc.row))])), .ro (.rows 1 (st.map fun w => [.ro (.ints .i64 w)])), .ro (.rows 1 (tn.map fun w => [.ro (.rows 5 (w.map Fl.row))])), .ro (.ints .i64 ln)]], true, 29⟩)], 1⟩ ⟨by simp [getT, PV.lo, lo1], by simp [getH, Blk.lo, Cells.lo, lo1], rfl, by omega⟩ ⟨(0), (z), by omega, by assumption, by rfl, rfl, rfl⟩ ?_
        rintro m_ s_ ⟨j, y, hL20_0, hL20_1, hL20_2, rfl, rfl⟩ KL20 hL20
        have hjw : IntKind.i64.wrap ((j : Int) + 1) = (((j + 1 : Nat)) : Int) := wnext (by omega)
        obtain ⟨zo1, zo2⟩ := (by assumption : ZOk y)
        have hy0 := (by assumption : rowZ se (k : Nat) ((st[k]?.getD []).drop j) (j : Nat) y = rowZ se (k : Nat) (st[k]?.getD []) 0 z)
        refine swp_seq fun K21 hK21 => ?_
        refine swp_region ty_ok ?_
        try simp (maxSteps := 1000000)
        repeat' (first | apply And.intro | intro _)
        any_goals (first | (refine hK21 _ ?_; clear hK21) | (first | omega | (simp only [IntKind.wrap_i64] at *; omega) | (simp_all; done) | (simp_all; omega)))
        refine swp_seq fun K22 hK22 => ?_
        refine swp_if fun C23 hC23 => ?_
        try simp (maxSteps := 1000000)
        refine hC23 _ (fun hc23 => ?_) (fun hc23 => ?_)
        · clear hC23
          try simp at hc23
          refine swp_skip ?_
          simp only [thn, inBlk]
          refine hK22 _ ?_; clear hK22
          refine swp_seq fun K24 hK24 => ?_
          refine swp_block ?_
          refine swp_seq fun K25 hK25 => ?_
          have hrd := row_drop (se := se) (g := (k : Nat)) (row := (st[k]?.getD [])) (j := j) (by omega) y
          refine swp_region ty_ok ?_
          try simp (maxSteps := 1000000)
          repeat' (first | apply And.intro | intro _)
          any_goals (first | (refine hK25 _ ?_; clear hK25) | (first | omega | (simp only [IntKind.wrap_i64] at *; omega) | (simp_all; done) | (simp_all; omega)))
          refine swp_seq fun K26 hK26 => ?_
          refine swp_region ty_ok ?_
          refine runs_cut 4 fun R27 hR27 => ?_
          try simp (maxSteps := 1000000) [List.take_succ_cons, List.take_zero, List.drop_succ_cons, List.drop_zero]
          repeat' (first | apply And.intro | intro _)
          any_goals (first | (refine hR27 _ ?_; clear hR27) | (first | omega | (simp only [IntKind.wrap_i64] at *; omega) | (simp_all; done) | (simp_all; omega)))
          refine runs_cut 1 fun R28 hR28 => ?_
          try simp (maxSteps := 1000000) [List.take_succ_cons, List.take_zero, List.drop_succ_cons, List.drop_zero]
          refine .inl ⟨_, lane_Book_ok se (k : Nat) (j : Nat) hs (by omega), ?_⟩
          try simp (maxSteps := 1000000)
          repeat' (first | apply And.intro | intro _)
          any_goals (first | (refine hR28 _ ?_; clear hR28) | (first | omega | (simp only [IntKind.wrap_i64] at *; omega) | (simp_all; done) | (simp_all; omega)))
          try simp (maxSteps := 1000000) [List.take_succ_cons, List.take_zero, List.drop_succ_cons, List.drop_zero]
          repeat' (first | apply And.intro | intro _)
          any_goals (first | (refine hK26 _ ?_; clear hK26) | (first | omega | (simp only [IntKind.wrap_i64] at *; omega) | (simp_all; done) | (simp_all; omega)))
          refine swp_block ?_
          refine swp_seq fun K29 hK29 => ?_
          refine swp_region ty_ok ?_
          try simp (maxSteps := 1000000)
          repeat' (first | apply And.intro | intro _)
          any_goals (first | (refine hK29 _ ?_; clear hK29) | (first | omega | (simp only [IntKind.wrap_i64] at *; omega) | (simp_all; done) | (simp_all; omega)))
          refine swp_if fun C30 hC30 => ?_
          try simp (maxSteps := 1000000)
          refine hC30 _ (fun hc30 => ?_) (fun hc30 => ?_)
          · clear hC30
            try simp at hc30
            refine swp_seq fun K31 hK31 => ?_
            refine swp_region ty_ok ?_
            try simp (maxSteps := 1000000)
            repeat' (first | apply And.intro | intro _)
            any_goals (first | (refine hK31 _ ?_; clear hK31) | (first | omega | (simp only [IntKind.wrap_i64] at *; omega) | (simp_all; done) | (simp_all; omega)))
            refine swp_ret ?_
            simp [fnPost, Try.results74, resP, tupOf]
            refine stp_bad ?_
            rw [← hz0, had, if_pos hrm, ← hy0, hrd, show stp1 (bkG se (k : Nat) (j : Nat)).1 ((st[k]?.getD [])[j]?.getD 0) y = none from stp_nil hc30]
            rfl
          · clear hC30
            try simp at hc30
            refine swp_seq fun K32 hK32 => ?_
            have hb0 : (bkG se (k : Nat) (j : Nat)).1 = 0 → (st[k]?.getD [])[j]?.getD 0 = 0 := hc30
            refine swp_region ty_ok ?_
            try simp (maxSteps := 1000000)
            repeat' (first | apply And.intro | intro _)
            any_goals (first | (refine hK32 _ ?_; clear hK32) | (first | omega | (simp only [IntKind.wrap_i64] at *; omega) | (simp_all; done) | (simp_all; omega)))
            refine swp_if fun C33 hC33 => ?_
            try simp (maxSteps := 1000000)
            refine hC33 _ (fun hc33 => ?_) (fun hc33 => ?_)
            · clear hC33
              try simp at hc33
              refine swp_seq fun K34 hK34 => ?_
              refine swp_seq fun K35 hK35 => ?_
              have hb13 := (by assumption : (bkG se (k : Nat) (j : Nat)).1 = 13)
              refine swp_region ty_ok ?_
              refine runs_cut 11 fun R36 hR36 => ?_
              try simp (maxSteps := 1000000) [List.take_succ_cons, List.take_zero, List.drop_succ_cons, List.drop_zero]
              repeat' (first | apply And.intro | intro _)
              any_goals (first | (refine hR36 _ ?_; clear hR36) | (first | omega | (simp only [IntKind.wrap_i64] at *; omega) | (simp_all; done) | (simp_all; omega)))
              refine runs_cut 1 fun R37 hR37 => ?_
              try simp (maxSteps := 1000000) [List.take_succ_cons, List.take_zero, List.drop_succ_cons, List.drop_zero]
              first | refine .inl ⟨_, fun hb => .inl ⟨lane_near_ok _ _ (by omega), rfl⟩, ?_⟩ | refine .inl ⟨_, .inl ⟨lane_near_ok _ _ (by omega), rfl⟩, ?_⟩ | refine .inl ⟨_, fun hb => .inl (lane_near_ok _ _ (by omega)), ?_⟩ | refine .inl ⟨_, .inl (lane_near_ok _ _ (by omega)), ?_⟩ | refine .inl ⟨_, by (intros; exact Or.inl (lane_near_ok _ _ (by omega))), ?_⟩ | refine .inl ⟨_, by (intros; exact Or.inl ⟨lane_near_ok _ _ (by omega), rfl⟩), ?_⟩ | refine .inl ⟨_, fun hb => .inl ⟨_, lane_near_ok _ _ (by omega), by (try simp); exact ⟨rfl, rfl⟩⟩, ?_⟩
              repeat' (first | apply And.intro | intro _)
              any_goals (first | (refine hR37 _ ?_; clear hR37) | (first | omega | (simp only [IntKind.wrap_i64] at *; omega) | (simp_all; done) | (simp_all; omega)))
              try simp (maxSteps := 1000000) [List.take_succ_cons, List.take_zero, List.drop_succ_cons, List.drop_zero]
              repeat' (first | apply And.intro | intro _)
              any_goals (first | (refine hK35 _ ?_; clear hK35) | (first | omega | (simp only [IntKind.wrap_i64] at *; omega) | (simp_all; done) | (simp_all; omega)))
              refine swp_if fun C38 hC38 => ?_
              try simp (maxSteps := 1000000)
              refine hC38 _ (fun hc38 => ?_) (fun hc38 => ?_)
              · clear hC38
                try simp at hc38
                refine swp_seq fun K39 hK39 => ?_
                refine swp_region ty_ok ?_
                try simp (maxSteps := 1000000)
                repeat' (first | apply And.intro | intro _)
                any_goals (first | (refine hK39 _ ?_; clear hK39) | (first | omega | (simp only [IntKind.wrap_i64] at *; omega) | (simp_all; done) | (simp_all; omega)))
                refine swp_ret ?_
                simp [fnPost, Try.results74, resP, tupOf]
                refine stp_bad ?_
                rw [← hz0, had, if_pos hrm, ← hy0, hrd, show stp1 (bkG se (k : Nat) (j : Nat)).1 ((st[k]?.getD [])[j]?.getD 0) y = none from stp_13n hb0 hb13 hc38]
                rfl
              · clear hC38
                try simp at hc38
                refine swp_skip ?_
                simp only [thn, inBlk]
                refine hK34 _ ?_; clear hK34
                have hst : stp1 (bkG se (k : Nat) (j : Nat)).1 ((st[k]?.getD [])[j]?.getD 0) y = some (nxZ (bkG se (k : Nat) (j : Nat)).1 ((st[k]?.getD [])[j]?.getD 0) y) := stp_13y hb0 hb13 hc38
                refine swp_region ty_ok ?_
                try simp (maxSteps := 1000000)
                repeat' (first | apply And.intro | intro _)
                any_goals (first | (refine hK24 _ ?_; clear hK24) | (first | omega | (simp only [IntKind.wrap_i64] at *; omega) | (simp_all; done) | (simp_all; omega)))
                try have hst : stp1 (bkG se (k : Nat) (j : Nat)).1 ((st[k]?.getD [])[j]?.getD 0) y = some (nxZ (bkG se (k : Nat) (j : Nat)).1 ((st[k]?.getD [])[j]?.getD 0) y) := stp_0y hb0 hb13 (by assumption)
                refine swp_region ty_ok ?_
                try simp (maxSteps := 1000000)
                repeat' apply And.intro
                any_goals (try omega)
                refine hL20 _ ⟨[(1, .ptr 0 0 0 1), (3, .int .i64 (nxZ (bkG se (k : Nat) (j : Nat)).1 ((st[k]?.getD [])[j]?.getD 0) y).last), (4, .int .i64 (nxZ (bkG se (k : Nat) (j : Nat)).1 ((st[k]?.getD [])[j]?.getD 0) y).noise), (5, .bool (nxZ (bkG se (k : Nat) (j : Nat)).1 ((st[k]?.getD [])[j]?.getD 0) y).on), (23, .ro (.rows 1 (st.map fun w => [.ro (.ints .i64 w)]))), (24, .int .i64 (st.length : Nat)), (25, .int .i64 (k : Nat)), (6, .int .i64 (k : Nat)), (7, .ro (.ints .i64 (st[k]?.getD []))), (36, .ro (.ints .i64 (st[k]?.getD []))), (37, .int .i64 ((st[k]?.getD []).length : Nat)), (38, .int .i64 ((j + 1) : Nat))], [(0, some ⟨.rows 9 [[.int .i64 ga, .int .u8 s, .int .u8 sh, .int .i64 m, .ro (.ints .i64 g), .ro (.rows 1 (se.map fun w => [.ro (.rows 2 (w.map Sc.row))])), .ro (.rows 1 (st.map fun w => [.ro (.ints .i64 w)])), .ro (.rows 1 (tn.map fun w => [.ro (.rows 5 (w.map Fl.row))])), .ro (.ints .i64 ln)]], true, 29⟩)], 1⟩ _ ?_ ⟨(j + 1), (nxZ (bkG se (k : Nat) (j : Nat)).1 ((st[k]?.getD [])[j]?.getD 0) y), by omega, by (exact stp1_ok (by assumption) hst), by (rw [← hy0, hrd, hst]; rfl), rfl, rfl⟩ ⟨by (first | (have hnx : nxZ (bkG se (k : Nat) (j : Nat)).1 ((st[k]?.getD [])[j]?.getD 0) y = ⟨y.last, (st[k]?.getD [])[j]?.getD 0, true⟩ := (if_pos hb13); simp [getT, PV.lo, lo1, hjw, hnx]; done) | (have hnx : nxZ (bkG se (k : Nat) (j : Nat)).1 ((st[k]?.getD [])[j]?.getD 0) y = ⟨(st[k]?.getD [])[j]?.getD 0, y.noise, y.on⟩ := (by unfold nxZ; rw [if_neg hb13, if_pos (by omega)]); simp [getT, PV.lo, lo1, hjw, hnx]; done) | (have hnx : nxZ (bkG se (k : Nat) (j : Nat)).1 ((st[k]?.getD [])[j]?.getD 0) y = y := (by unfold nxZ; rw [if_neg hb13, if_neg (by omega)]); simp [getT, PV.lo, lo1, hjw, hnx])), by simp [getH, Blk.lo, Cells.lo, lo1], rfl, by omega⟩
                omega
            · clear hC33
              try simp at hc33
              refine swp_seq fun K40 hK40 => ?_
              have hb13 := (by assumption : ¬ (bkG se (k : Nat) (j : Nat)).1 = 13)
              refine swp_region ty_ok ?_
              try simp (maxSteps := 1000000)
              repeat' (first | apply And.intro | intro _)
              any_goals (first | (refine hK40 _ ?_; clear hK40) | (first | omega | (simp only [IntKind.wrap_i64] at *; omega) | (simp_all; done) | (simp_all; omega)))
              refine swp_if fun C41 hC41 => ?_
              try simp (maxSteps := 1000000)
              refine hC41 _ (fun hc41 => ?_) (fun hc41 => ?_)
              · clear hC41
                try simp at hc41
                refine swp_seq fun K42 hK42 => ?_
                refine swp_seq fun K43 hK43 => ?_
                refine swp_region ty_ok ?_
                refine runs_cut 9 fun R44 hR44 => ?_
                try simp (maxSteps := 1000000) [List.take_succ_cons, List.take_zero, List.drop_succ_cons, List.drop_zero]
                repeat' (first | apply And.intro | intro _)
                any_goals (first | (refine hR44 _ ?_; clear hR44) | (first | omega | (simp only [IntKind.wrap_i64] at *; omega) | (simp_all; done) | (simp_all; omega)))
                refine runs_cut 1 fun R45 hR45 => ?_
                try simp (maxSteps := 1000000) [List.take_succ_cons, List.take_zero, List.drop_succ_cons, List.drop_zero]
                first | refine .inl ⟨_, fun hb => .inl ⟨lane_near_ok _ _ (by omega), rfl⟩, ?_⟩ | refine .inl ⟨_, .inl ⟨lane_near_ok _ _ (by omega), rfl⟩, ?_⟩ | refine .inl ⟨_, fun hb => .inl (lane_near_ok _ _ (by omega)), ?_⟩ | refine .inl ⟨_, .inl (lane_near_ok _ _ (by omega)), ?_⟩ | refine .inl ⟨_, by (intros; exact Or.inl (lane_near_ok _ _ (by omega))), ?_⟩ | refine .inl ⟨_, by (intros; exact Or.inl ⟨lane_near_ok _ _ (by omega), rfl⟩), ?_⟩ | refine .inl ⟨_, fun hb => .inl ⟨_, lane_near_ok _ _ (by omega), by (try simp); exact ⟨rfl, rfl⟩⟩, ?_⟩
                repeat' (first | apply And.intro | intro _)
                any_goals (first | (refine hR45 _ ?_; clear hR45) | (first | omega | (simp only [IntKind.wrap_i64] at *; omega) | (simp_all; done) | (simp_all; omega)))
                try simp (maxSteps := 1000000) [List.take_succ_cons, List.take_zero, List.drop_succ_cons, List.drop_zero]
                repeat' (first | apply And.intro | intro _)
                any_goals (first | (refine hK43 _ ?_; clear hK43) | (first | omega | (simp only [IntKind.wrap_i64] at *; omega) | (simp_all; done) | (simp_all; omega)))
                refine swp_if fun C46 hC46 => ?_
                try simp (maxSteps := 1000000)
                refine hC46 _ (fun hc46 => ?_) (fun hc46 => ?_)
                · clear hC46
                  try simp at hc46
                  refine swp_seq fun K47 hK47 => ?_
                  refine swp_region ty_ok ?_
                  try simp (maxSteps := 1000000)
                  repeat' (first | apply And.intro | intro _)
                  any_goals (first | (refine hK47 _ ?_; clear hK47) | (first | omega | (simp only [IntKind.wrap_i64] at *; omega) | (simp_all; done) | (simp_all; omega)))
                  refine swp_ret ?_
                  simp [fnPost, Try.results74, resP, tupOf]
                  refine stp_bad ?_
                  rw [← hz0, had, if_pos hrm, ← hy0, hrd, show stp1 (bkG se (k : Nat) (j : Nat)).1 ((st[k]?.getD [])[j]?.getD 0) y = none from stp_pn hb0 hb13 (by assumption) hc46]
                  rfl
                · clear hC46
                  try simp at hc46
                  refine swp_skip ?_
                  simp only [thn, inBlk]
                  refine hK42 _ ?_; clear hK42
                  have hst : stp1 (bkG se (k : Nat) (j : Nat)).1 ((st[k]?.getD [])[j]?.getD 0) y = some (nxZ (bkG se (k : Nat) (j : Nat)).1 ((st[k]?.getD [])[j]?.getD 0) y) := stp_py hb0 hb13 (by assumption) hc46
                  refine swp_region ty_ok ?_
                  try simp (maxSteps := 1000000)
                  repeat' (first | apply And.intro | intro _)
                  any_goals (first | (refine hK24 _ ?_; clear hK24) | (first | omega | (simp only [IntKind.wrap_i64] at *; omega) | (simp_all; done) | (simp_all; omega)))
                  try have hst : stp1 (bkG se (k : Nat) (j : Nat)).1 ((st[k]?.getD [])[j]?.getD 0) y = some (nxZ (bkG se (k : Nat) (j : Nat)).1 ((st[k]?.getD [])[j]?.getD 0) y) := stp_0y hb0 hb13 (by assumption)
                  refine swp_region ty_ok ?_
                  try simp (maxSteps := 1000000)
                  repeat' apply And.intro
                  any_goals (try omega)
                  refine hL20 _ ⟨[(1, .ptr 0 0 0 1), (3, .int .i64 (nxZ (bkG se (k : Nat) (j : Nat)).1 ((st[k]?.getD [])[j]?.getD 0) y).last), (4, .int .i64 (nxZ (bkG se (k : Nat) (j : Nat)).1 ((st[k]?.getD [])[j]?.getD 0) y).noise), (5, .bool (nxZ (bkG se (k : Nat) (j : Nat)).1 ((st[k]?.getD [])[j]?.getD 0) y).on), (23, .ro (.rows 1 (st.map fun w => [.ro (.ints .i64 w)]))), (24, .int .i64 (st.length : Nat)), (25, .int .i64 (k : Nat)), (6, .int .i64 (k : Nat)), (7, .ro (.ints .i64 (st[k]?.getD []))), (36, .ro (.ints .i64 (st[k]?.getD []))), (37, .int .i64 ((st[k]?.getD []).length : Nat)), (38, .int .i64 ((j + 1) : Nat))], [(0, some ⟨.rows 9 [[.int .i64 ga, .int .u8 s, .int .u8 sh, .int .i64 m, .ro (.ints .i64 g), .ro (.rows 1 (se.map fun w => [.ro (.rows 2 (w.map Sc.row))])), .ro (.rows 1 (st.map fun w => [.ro (.ints .i64 w)])), .ro (.rows 1 (tn.map fun w => [.ro (.rows 5 (w.map Fl.row))])), .ro (.ints .i64 ln)]], true, 29⟩)], 1⟩ _ ?_ ⟨(j + 1), (nxZ (bkG se (k : Nat) (j : Nat)).1 ((st[k]?.getD [])[j]?.getD 0) y), by omega, by (exact stp1_ok (by assumption) hst), by (rw [← hy0, hrd, hst]; rfl), rfl, rfl⟩ ⟨by (first | (have hnx : nxZ (bkG se (k : Nat) (j : Nat)).1 ((st[k]?.getD [])[j]?.getD 0) y = ⟨y.last, (st[k]?.getD [])[j]?.getD 0, true⟩ := (if_pos hb13); simp [getT, PV.lo, lo1, hjw, hnx]; done) | (have hnx : nxZ (bkG se (k : Nat) (j : Nat)).1 ((st[k]?.getD [])[j]?.getD 0) y = ⟨(st[k]?.getD [])[j]?.getD 0, y.noise, y.on⟩ := (by unfold nxZ; rw [if_neg hb13, if_pos (by omega)]); simp [getT, PV.lo, lo1, hjw, hnx]; done) | (have hnx : nxZ (bkG se (k : Nat) (j : Nat)).1 ((st[k]?.getD [])[j]?.getD 0) y = y := (by unfold nxZ; rw [if_neg hb13, if_neg (by omega)]); simp [getT, PV.lo, lo1, hjw, hnx])), by simp [getH, Blk.lo, Cells.lo, lo1], rfl, by omega⟩
                  omega
              · clear hC41
                try simp at hc41
                refine swp_skip ?_
                simp only [thn, inBlk]
                refine hK24 _ ?_; clear hK24
                try have hst : stp1 (bkG se (k : Nat) (j : Nat)).1 ((st[k]?.getD [])[j]?.getD 0) y = some (nxZ (bkG se (k : Nat) (j : Nat)).1 ((st[k]?.getD [])[j]?.getD 0) y) := stp_0y hb0 hb13 (by assumption)
                refine swp_region ty_ok ?_
                try simp (maxSteps := 1000000)
                repeat' apply And.intro
                any_goals (try omega)
                refine hL20 _ ⟨[(1, .ptr 0 0 0 1), (3, .int .i64 (nxZ (bkG se (k : Nat) (j : Nat)).1 ((st[k]?.getD [])[j]?.getD 0) y).last), (4, .int .i64 (nxZ (bkG se (k : Nat) (j : Nat)).1 ((st[k]?.getD [])[j]?.getD 0) y).noise), (5, .bool (nxZ (bkG se (k : Nat) (j : Nat)).1 ((st[k]?.getD [])[j]?.getD 0) y).on), (23, .ro (.rows 1 (st.map fun w => [.ro (.ints .i64 w)]))), (24, .int .i64 (st.length : Nat)), (25, .int .i64 (k : Nat)), (6, .int .i64 (k : Nat)), (7, .ro (.ints .i64 (st[k]?.getD []))), (36, .ro (.ints .i64 (st[k]?.getD []))), (37, .int .i64 ((st[k]?.getD []).length : Nat)), (38, .int .i64 ((j + 1) : Nat))], [(0, some ⟨.rows 9 [[.int .i64 ga, .int .u8 s, .int .u8 sh, .int .i64 m, .ro (.ints .i64 g), .ro (.rows 1 (se.map fun w => [.ro (.rows 2 (w.map Sc.row))])), .ro (.rows 1 (st.map fun w => [.ro (.ints .i64 w)])), .ro (.rows 1 (tn.map fun w => [.ro (.rows 5 (w.map Fl.row))])), .ro (.ints .i64 ln)]], true, 29⟩)], 1⟩ _ ?_ ⟨(j + 1), (nxZ (bkG se (k : Nat) (j : Nat)).1 ((st[k]?.getD [])[j]?.getD 0) y), by omega, by (exact stp1_ok (by assumption) hst), by (rw [← hy0, hrd, hst]; rfl), rfl, rfl⟩ ⟨by (first | (have hnx : nxZ (bkG se (k : Nat) (j : Nat)).1 ((st[k]?.getD [])[j]?.getD 0) y = ⟨y.last, (st[k]?.getD [])[j]?.getD 0, true⟩ := (if_pos hb13); simp [getT, PV.lo, lo1, hjw, hnx]; done) | (have hnx : nxZ (bkG se (k : Nat) (j : Nat)).1 ((st[k]?.getD [])[j]?.getD 0) y = ⟨(st[k]?.getD [])[j]?.getD 0, y.noise, y.on⟩ := (by unfold nxZ; rw [if_neg hb13, if_pos (by omega)]); simp [getT, PV.lo, lo1, hjw, hnx]; done) | (have hnx : nxZ (bkG se (k : Nat) (j : Nat)).1 ((st[k]?.getD [])[j]?.getD 0) y = y := (by unfold nxZ; rw [if_neg hb13, if_neg (by omega)]); simp [getT, PV.lo, lo1, hjw, hnx])), by simp [getH, Blk.lo, Cells.lo, lo1], rfl, by omega⟩
                omega
        · clear hC23
          try simp at hc23
          refine swp_exit ?_
          simp [thn, inBlk]
          refine hK13 _ ?_; clear hK13
          refine swp_region ty_ok ?_
          try simp (maxSteps := 1000000)
          repeat' apply And.intro
          any_goals (try omega)
          refine hL9 _ ⟨[(1, .ptr 0 0 0 1), (3, .int .i64 y.last), (4, .int .i64 y.noise), (5, .bool y.on), (23, .ro (.rows 1 (st.map fun w => [.ro (.ints .i64 w)]))), (24, .int .i64 (st.length : Nat)), (25, .int .i64 ((k + 1) : Nat))], [(0, some ⟨.rows 9 [[.int .i64 ga, .int .u8 s, .int .u8 sh, .int .i64 m, .ro (.ints .i64 g), .ro (.rows 1 (se.map fun w => [.ro (.rows 2 (w.map Sc.row))])), .ro (.rows 1 (st.map fun w => [.ro (.ints .i64 w)])), .ro (.rows 1 (tn.map fun w => [.ro (.rows 5 (w.map Fl.row))])), .ro (.ints .i64 ln)]], true, 29⟩)], 1⟩ _ ?_ ⟨(k + 1), (y), by omega, by assumption, by (rw [← hz0, had, if_pos hrm, ← hy0, row_end (by omega)]; rfl), rfl, rfl⟩ ⟨by simp [getT, PV.lo, lo1, hkw], by simp [getH, Blk.lo, Cells.lo, lo1], rfl, by omega⟩
          omega
    · clear hC12
      try simp at hc12
      refine swp_exit ?_
      simp [thn, inBlk]
      refine hK7 _ ?_; clear hK7
      refine swp_seq fun K48 hK48 => ?_
      refine swp_region ty_ok ?_
      try simp (maxSteps := 1000000)
      repeat' (first | apply And.intro | intro _)
      any_goals (first | (refine hK48 _ ?_; clear hK48) | (first | omega | (simp only [IntKind.wrap_i64] at *; omega) | (simp_all; done) | (simp_all; omega)))
      refine swp_ret ?_
      simp [fnPost, Try.results74, resP, tupOf]
      rw [all_end (by omega)] at hz0
      exact stp_all (by omega) hz0.symm

theorem lfil1_ok (lo hi n : Int) : PCall Try.prog 108 [.int .i64 n, .rop (.rows 1 [[.int .i64 lo]]) 0 0, .rop (.rows 1 [[.int .i64 hi]]) 0 0] (.bool (decide (n < lo) || decide (hi < n))) := by
  refine pcall_body ty_ok Try.func108 rfl (by rfl) (by simp) ?_
  rw [Try.ntmps108]
  refine swp_seq fun K1 hK1 => ?_
  refine swp_region ty_ok ?_
  try simp (maxSteps := 1000000)
  repeat' (first | apply And.intro | intro _)
  any_goals (first | (refine hK1 _ ?_; clear hK1) | (first | omega | (simp only [IntKind.wrap_i64] at *; omega) | (simp_all; done) | (simp_all; omega)))
  refine swp_seq fun K2 hK2 => ?_
  refine swp_region ty_ok ?_
  try simp (maxSteps := 1000000)
  repeat' (first | apply And.intro | intro _)
  any_goals (first | (refine hK2 _ ?_; clear hK2) | (first | omega | (simp only [IntKind.wrap_i64] at *; omega) | (simp_all; done) | (simp_all; omega)))
  refine swp_ret ?_
  simp [fnPost, Try.results108, resP, tupOf]

end Go.Proofs.Ytmkgfgdipkagbaa

