import Derived.Test.YtmkgfgdipkagbaaWb
import Derived.Test.YtmkgfgdipkagbaaTyl
import Derived.Test.YtmkgfgdipkagbaaLband
namespace Go.Proofs.Ytmkgfgdipkagbaa
set_option linter.unusedVariables false
set_option linter.unusedSimpArgs false
set_option maxRecDepth 10000
open Go Go.Pv


def okG (s : Int) (g : List Int) : Bool := if s = 2 then decide ((∀ x ∈ g, 1 ≤ x) ∧ g.sum = 8) else decide (g = [1])
theorem okG_n {s : Int} {g : List Int} (h : ¬ s = 2) : okG s g = decide (g = [1]) := if_neg h
theorem okG_y {s : Int} {g : List Int} (h : s = 2) : okG s g = decide ((∀ x ∈ g, 1 ≤ x) ∧ g.sum = 8) := if_pos h
theorem sum_len : ∀ {g : List Int}, (∀ x ∈ g, 1 ≤ x) → (g.length : Int) ≤ g.sum
  | [], _ => by simp
  | x :: g, h => by
    have h1 := h x (by simp)
    have h2 := sum_len (g := g) fun y hy => h y (by simp [hy])
    simp only [List.length_cons, List.sum_cons]
    omega
theorem sum_take {g : List Int} {i : Nat} (h : i < g.length) : (g.take (i + 1)).sum = (g.take i).sum + g[i]?.getD 0 := by
  rw [List.take_add_one, List.getElem?_eq_getElem h]
  rw [List.sum_append]
  simp
theorem sum_ge {g : List Int} {i : Nat} (h : i < g.length) (hg : ∀ x ∈ g, 1 ≤ x) : (g.take i).sum + g[i]?.getD 0 ≤ g.sum ∧ (i : Int) ≤ (g.take i).sum := by
  have h1 := sum_take h
  have h2 : (g.take (i + 1)).sum + (g.drop (i + 1)).sum = g.sum := by rw [← List.sum_append, List.take_append_drop]
  have h3 := sum_len (g := g.drop (i + 1)) fun x hx => hg x (List.mem_of_mem_drop hx)
  have h4 := sum_len (g := g.take i) fun x hx => hg x (List.mem_of_mem_take hx)
  rw [List.length_take] at h4
  omega
theorem all_of {g : List Int} {P : Int → Prop} {i : Nat} (hi : g.length ≤ i) (h : ∀ j < i, P (g[j]?.getD 0)) : ∀ x ∈ g, P x := by
  intro x hx
  obtain ⟨j, hj, rfl⟩ := List.getElem_of_mem hx
  have := h j (by omega)
  rwa [List.getElem?_eq_getElem hj] at this
theorem of_all {g : List Int} {P : Int → Prop} (h : ∀ x ∈ g, P x) {j : Nat} (hj : j < g.length) : P (g[j]?.getD 0) := by
  rw [List.getElem?_eq_getElem hj]
  exact h _ (List.getElem_mem hj)
theorem okG_bad1 {s : Int} {g : List Int} {i : Nat} (hs : s = 2) (h : i < g.length) (hb : g[i]?.getD 0 < 1 ∨ 8 < g[i]?.getD 0) : okG s g = false := by
  rw [okG_y hs, decide_eq_false]
  rintro ⟨h1, h2⟩
  have := of_all h1 h
  have h3 := sum_ge h h1
  omega
theorem okG_bad2 {s : Int} {g : List Int} {i : Nat} (hs : s = 2) (h : i < g.length) (hb : g[i]?.getD 0 < 1 ∨ 8 - (g.take i).sum < g[i]?.getD 0) : okG s g = false := by
  rw [okG_y hs, decide_eq_false]
  rintro ⟨h1, h2⟩
  have := of_all h1 h
  have h3 := sum_ge h h1
  omega
theorem okG_end {s : Int} {g : List Int} {i : Nat} (hs : s = 2) (hi : g.length ≤ i) (h : ∀ j < i, 1 ≤ g[j]?.getD 0) : okG s g = decide ((g.take i).sum = 8) := by
  rw [okG_y hs, List.take_of_length_le hi]
  have h1 := all_of (P := fun x => 1 ≤ x) hi h
  by_cases h2 : g.sum = 8
  · rw [decide_eq_true h2, decide_eq_true ⟨h1, h2⟩]
  · rw [decide_eq_false h2, decide_eq_false fun h => h2 h.2]
theorem okG_end2 {s : Int} {g : List Int} {i : Nat} (hs : s = 2) (hi : g.length ≤ i) (h : ∀ j < i, 1 ≤ g[j]?.getD 0) : okG s g = (decide ((g.take i).sum = 8) && decide ((g.length : Int) ≤ 8)) := by
  rw [okG_end hs hi h]
  have h1 := sum_len (all_of (P := fun x => 1 ≤ x) hi h)
  rw [List.take_of_length_le hi]
  by_cases h2 : g.sum = 8
  · rw [decide_eq_true h2, decide_eq_true (by omega : (g.length : Int) ≤ 8)]; rfl
  · rw [decide_eq_false h2]; rfl
theorem one_eq (g : List Int) : decide (g = [1]) = (decide ((g.length : Int) = 1) && decide (g[0]?.getD 0 = 1)) := by
  match g with
  | [] => rfl
  | [x] => simp
  | x :: y :: g => simp; omega
def mayI (rate s sh m : Int) (g : List Int) : Bool := decide (s ≤ 3 ∧ sh ≤ 1 ∧ 0 ≤ m ∧ m ≤ MB rate (decide (s = 2))) && okG s g
def chI (rate s sh m : Int) (g : List Int) : Int := if rate < 0 ∨ 11 < rate then 2 else if mayI rate s sh m g then 0 else 8
theorem mayI_no {rate s sh m : Int} {g : List Int} (h : ¬ (s ≤ 3 ∧ sh ≤ 1 ∧ 0 ≤ m ∧ m ≤ MB rate (decide (s = 2)))) : mayI rate s sh m g = false := by
  unfold mayI
  rw [decide_eq_false h]
  rfl
theorem mayI_go {rate s sh m : Int} {g : List Int} (h : s ≤ 3 ∧ sh ≤ 1 ∧ 0 ≤ m ∧ m ≤ MB rate (decide (s = 2))) : mayI rate s sh m g = okG s g := by
  unfold mayI
  rw [decide_eq_true h]
  rfl
theorem mayI_mono {a b s sh m : Int} {g : List Int} (h : 0 ≤ a ∧ a ≤ b ∧ b ≤ 11) (hm : mayI a s sh m g = true) : mayI b s sh m g = true := by
  have := MB_mono (decide (s = 2)) h
  unfold mayI at hm ⊢
  rw [Bool.and_eq_true, decide_eq_true_eq] at hm
  rw [Bool.and_eq_true, decide_eq_true_eq]
  exact ⟨by omega, hm.2⟩
def winI (s sh m : Int) (g : List Int) : Int := if mayI 11 s sh m g then (if s = 2 then 8 else 1) else 0
def winE (s sh m : Int) (g : List Int) : Int := if mayI 11 s sh m g then 0 else 8
theorem eA_zero {rate : Int} (h : eA rate = 0) : 0 ≤ rate ∧ rate ≤ 11 := by
  by_cases hh : rate < 0 ∨ 11 < rate
  · rw [eA_no hh] at h; cases h
  · omega
theorem eA_pos {rate : Int} (h : ¬ eA rate = 0) : rate < 0 ∨ 11 < rate := by
  by_cases hh : rate < 0 ∨ 11 < rate
  · exact hh
  · exact absurd (eA_yes (by omega)) h
theorem chI_no {rate s sh m : Int} {g : List Int} (h : rate < 0 ∨ 11 < rate) : chI rate s sh m g = 2 := if_pos h
theorem chI_may {rate s sh m : Int} {g : List Int} (h : 0 ≤ rate ∧ rate ≤ 11) : chI rate s sh m g = if mayI rate s sh m g then 0 else 8 := if_neg (by omega)
theorem chI_bad {rate s sh m : Int} {g : List Int} (h : 0 ≤ rate ∧ rate ≤ 11) (hb : (((3 < s ∨ 1 < sh) ∨ m < 0) ∨ MB rate (decide (s = 2)) < m) ∨ okG s g = false) : chI rate s sh m g = 8 := by
  rw [chI_may h]
  have : mayI rate s sh m g = false := by
    by_cases hh : s ≤ 3 ∧ sh ≤ 1 ∧ 0 ≤ m ∧ m ≤ MB rate (decide (s = 2))
    · rw [mayI_go hh]
      rcases hb with hb | hb
      · omega
      · exact hb
    · exact mayI_no hh
  rw [this]
  rfl
theorem chI_ok {rate s sh m : Int} {g : List Int} (h : 0 ≤ rate ∧ rate ≤ 11) (hb : (((s ≤ 3 ∧ sh ≤ 1) ∧ 0 ≤ m) ∧ m ≤ MB rate (decide (s = 2))) ∧ okG s g = true) : chI rate s sh m g = 0 := by
  rw [chI_may h, mayI_go (by omega), hb.2]
  rfl
theorem chI_11 (s sh m : Int) (g : List Int) : decide (chI 11 s sh m g = 0) = mayI 11 s sh m g := by
  rw [chI_may (by omega)]
  cases mayI 11 s sh m g <;> rfl
/-- Which group a window is in. -/
def grp : List Int → Int → Nat
  | [], _ => 0
  | x :: r, w => if x ≤ w then grp r (w - x) + 1 else 0
def inL : Nat → List Int → List Int
  | _, [] => []
  | k, x :: r => List.replicate x.toNat (k : Int) ++ inL (k + 1) r
theorem okG_pos {s : Int} {g : List Int} (h : okG s g = true) : (∀ x ∈ g, 1 ≤ x) ∧ g.sum = (if s = 2 then 8 else 1) := by
  by_cases hs : s = 2
  · rw [okG_y hs, decide_eq_true_eq] at h
    rw [if_pos hs]
    exact h
  · rw [okG_n hs, decide_eq_true_eq] at h
    rw [if_neg hs, h]
    simp
theorem may_pos {s sh m : Int} {g : List Int} (h : mayI 11 s sh m g = true) : (∀ x ∈ g, 1 ≤ x) ∧ g.sum = winI s sh m g ∧ (winI s sh m g = 8 ∨ winI s sh m g = 1) := by
  have h2 : okG s g = true := by
    unfold mayI at h
    rw [Bool.and_eq_true] at h
    exact h.2
  obtain ⟨h3, h4⟩ := okG_pos h2
  refine ⟨h3, ?_, ?_⟩
  · rw [h4, winI, if_pos h]
  · rw [winI, if_pos h]
    split <;> omega
theorem inL_len : ∀ (g : List Int) (k : Nat), (∀ x ∈ g, 1 ≤ x) → ((inL k g).length : Int) = g.sum
  | [], k, _ => by simp [inL]
  | x :: g, k, h => by
    have h1 := h x (by simp)
    have h2 := inL_len g (k + 1) fun y hy => h y (by simp [hy])
    simp only [inL, List.length_append, List.length_replicate, List.sum_cons]
    omega
theorem inL_get : ∀ (g : List Int) (k : Nat) (w : Int), (∀ x ∈ g, 1 ≤ x) → 0 ≤ w → w < g.sum → (inL k g)[w.toNat]?.getD 0 = ((k + grp g w : Nat) : Int)
  | [], k, w, _, h0, h1 => by simp at h1; omega
  | x :: g, k, w, h, h0, h1 => by
    have hx := h x (by simp)
    rw [List.sum_cons] at h1
    simp only [inL, grp]
    by_cases hw : x ≤ w
    · rw [if_pos hw, List.getElem?_append_right (by simp; omega), List.length_replicate, show w.toNat - x.toNat = (w - x).toNat by omega, inL_get g (k + 1) (w - x) (fun y hy => h y (by simp [hy])) (by omega) (by omega)]
      congr 1
      omega
    · rw [if_neg hw, List.getElem?_append_left (by simp; omega), List.getElem?_replicate, if_pos (by omega)]
      rfl
theorem inL_succ : ∀ (g : List Int) (k i : Nat), i < g.length → inL k (g.take (i + 1)) = inL k (g.take i) ++ List.replicate (g[i]?.getD 0).toNat ((k + i : Nat) : Int)
  | [], k, i, h => by simp at h
  | x :: g, k, 0, h => by simp [inL]
  | x :: g, k, i + 1, h => by
    have := inL_succ g (k + 1) i (by simpa using h)
    simp only [List.take_succ_cons, inL, this, List.append_assoc, List.getElem?_cons_succ]
    rw [show k + 1 + i = k + (i + 1) by omega]
theorem grp_step : ∀ (g : List Int) (w : Int) (j : Nat), j < g.length → (∀ i < j, True) → grp (g.drop j) w = if g[j]?.getD 0 ≤ w then grp (g.drop (j + 1)) (w - g[j]?.getD 0) + 1 else 0 := fun g w j h _ => by
  rw [List.drop_eq_getElem_cons h, grp, List.getElem?_eq_getElem h]
  rfl
theorem left_lt {g : List Int} {w : Int} {j : Nat} (hj : j ≤ g.length) (hw : w < g.sum) (hl : 0 ≤ w - (g.take j).sum) : j < g.length := by
  rcases Nat.lt_or_ge j g.length with h | h
  · exact h
  · rw [List.take_of_length_le h] at hl
    omega
def grpE (s sh m : Int) (g : List Int) (w : Int) : Int := if mayI 11 s sh m g then (if w < 0 ∨ winI s sh m g ≤ w then 2 else 0) else 8
def grpN (s sh m : Int) (g : List Int) (w : Int) : Int := if grpE s sh m g w = 0 then (grp g w : Nat) else 0
theorem grp_bad {s sh m : Int} {g : List Int} {w : Int} (h : mayI 11 s sh m g = false) : grpE s sh m g w = 8 ∧ grpN s sh m g w = 0 ∧ winE s sh m g = 8 ∧ winI s sh m g = 0 := by
  have h1 : grpE s sh m g w = 8 := by rw [grpE, h]; rfl
  refine ⟨h1, by rw [grpN, h1]; rfl, by rw [winE, h]; rfl, by rw [winI, h]; rfl⟩
theorem grp_arg {s sh m : Int} {g : List Int} {w : Int} (h : mayI 11 s sh m g = true) (hw : w < 0 ∨ winI s sh m g ≤ w) : grpE s sh m g w = 2 ∧ grpN s sh m g w = 0 := by
  have h1 : grpE s sh m g w = 2 := by rw [grpE, if_pos h, if_pos hw]
  exact ⟨h1, by rw [grpN, h1]; rfl⟩
theorem grp_ok {s sh m : Int} {g : List Int} {w : Int} (h : mayI 11 s sh m g = true) (hw : 0 ≤ w ∧ w < winI s sh m g) : grpE s sh m g w = 0 ∧ grpN s sh m g w = (grp g w : Nat) := by
  have h1 : grpE s sh m g w = 0 := by rw [grpE, if_pos h, if_neg (by omega)]
  exact ⟨h1, by rw [grpN, h1]; rfl⟩
theorem winE_no {s sh m : Int} {g : List Int} (h : winE s sh m g ≠ 0) : mayI 11 s sh m g = false := by
  cases hm : mayI 11 s sh m g with
  | false => rfl
  | true => exact absurd (by rw [winE, if_pos hm]) h
theorem winE_yes {s sh m : Int} {g : List Int} (h : winE s sh m g = 0) : mayI 11 s sh m g = true := by
  cases hm : mayI 11 s sh m g with
  | false => rw [(grp_bad (w := 0) hm).2.2.1] at h; cases h
  | true => rfl
def aft (was now : Int) : Bool := decide (((was = 0 ∨ was = 3) ∧ (now = 0 ∨ now = 1)) ∨ ((was = 1 ∨ was = 2) ∧ (now = 2 ∨ now = 3)))
def maN (s : Int) : Int := if s = 2 then 8 else 1

attribute [local simp] runs gd step1 need evu un opnds opv ev cst cst1 cstL getT getH putT onL nxt argT cellsOf PV.one thn inBlk jmp fldP ldP ldC live Cells.len Cells.get Cells.w sug ldv bin eqF eq1 ops2 sh2 binv Tk.agg stC apC rdS apS mvL zp argsP idx fillP toInts chunks mkC ixS ixA oidx slP sl0 mxF bltn frzA frz frzL frz1 pur1 Cells.pur PV.scal scal1 runD rdO PV.ids id1 zids ety Eff.on cnd minb and1b ifmax ifmin mxv sugI strv w0 w1 w2 wm1
theorem info_grouped_ok (s sh m : Int) (g : List Int) (hx : g.length ≤ 140737488355328) : PCall Try.prog 81 [.agg [.int .u8 s, .int .u8 sh, .int .i64 m, .ro (.ints .i64 g)]] (.bool (okG s g)) := by
  refine pcall_body ty_ok Try.func81 rfl (by rfl) (by simp) ?_
  rw [Try.ntmps81]
  refine swp_seq fun K1 hK1 => ?_
  refine swp_region ty_ok ?_
  try simp (maxSteps := 1000000)
  repeat' (first | apply And.intro | intro _)
  any_goals (first | (refine hK1 _ ?_; clear hK1) | (first | omega | (simp only [IntKind.wrap_i64] at *; omega) | (simp_all; done) | (simp_all; omega)))
  refine swp_seq fun K2 hK2 => ?_
  refine swp_seq fun K3 hK3 => ?_
  refine swp_region ty_ok ?_
  try simp (maxSteps := 1000000)
  repeat' (first | apply And.intro | intro _)
  any_goals (first | (refine hK3 _ ?_; clear hK3) | (first | omega | (simp only [IntKind.wrap_i64] at *; omega) | (simp_all; done) | (simp_all; omega)))
  refine swp_if fun C4 hC4 => ?_
  try simp (maxSteps := 1000000)
  refine hC4 _ (fun hc4 => ?_) (fun hc4 => ?_)
  · clear hC4
    try simp at hc4
    refine swp_seq fun K5 hK5 => ?_
    refine swp_region ty_ok ?_
    refine runs_cut 2 fun R6 hR6 => ?_
    try simp (maxSteps := 1000000) [List.take_succ_cons, List.take_zero, List.drop_succ_cons, List.drop_zero]
    repeat' (first | apply And.intro | intro _)
    any_goals (first | (refine hR6 _ ?_; clear hR6) | (first | omega | (simp only [IntKind.wrap_i64] at *; omega) | (simp_all; done) | (simp_all; omega)))
    refine runs_cut 1 fun R7 hR7 => ?_
    try simp (maxSteps := 1000000) [List.take_succ_cons, List.take_zero, List.drop_succ_cons, List.drop_zero]
    repeat' (first | apply And.intro | intro _)
    any_goals (first | (refine Or.inl (hR7 _ ?_); clear hR7) | (first | omega | (simp only [IntKind.wrap_i64] at *; omega) | (simp_all; done) | (simp_all; omega)))
    refine runs_cut 1 fun R8 hR8 => ?_
    try simp (maxSteps := 1000000) [List.take_succ_cons, List.take_zero, List.drop_succ_cons, List.drop_zero]
    refine .inl ⟨_, equal_ok g [1] hx, ?_⟩
    try simp (maxSteps := 1000000)
    repeat' (first | apply And.intro | intro _)
    any_goals (first | (refine hR8 _ ?_; clear hR8) | (first | omega | (simp only [IntKind.wrap_i64] at *; omega) | (simp_all; done) | (simp_all; omega)))
    try simp (maxSteps := 1000000) [List.take_succ_cons, List.take_zero, List.drop_succ_cons, List.drop_zero]
    repeat' (first | apply And.intro | intro _)
    any_goals (first | (refine hK5 _ ?_; clear hK5) | (first | omega | (simp only [IntKind.wrap_i64] at *; omega) | (simp_all; done) | (simp_all; omega)))
    refine swp_ret ?_
    simp [fnPost, Try.results81, resP, tupOf]
    rw [okG_n (by assumption)]
  · clear hC4
    try simp at hc4
    refine swp_skip ?_
    simp only [thn, inBlk]
    refine hK2 _ ?_; clear hK2
    refine swp_seq fun K9 hK9 => ?_
    refine swp_region ty_ok ?_
    try simp (maxSteps := 1000000)
    repeat' (first | apply And.intro | intro _)
    any_goals (first | (refine hK9 _ ?_; clear hK9) | (first | omega | (simp only [IntKind.wrap_i64] at *; omega) | (simp_all; done) | (simp_all; omega)))
    refine swp_seq fun K10 hK10 => ?_
    refine swp_seq fun K11 hK11 => ?_
    refine swp_region ty_ok ?_
    try simp (maxSteps := 1000000)
    repeat' (first | apply And.intro | intro _)
    any_goals (first | (refine hK11 _ ?_; clear hK11) | (first | omega | (simp only [IntKind.wrap_i64] at *; omega) | (simp_all; done) | (simp_all; omega)))
    refine swp_block ?_
    refine swp_loop 1 (fun m_ s_ => ∃ (i : Nat), (i ≤ g.length) ∧ (s = 2) ∧ (∀ j < i, 1 ≤ g[j]?.getD 0 ∧ g[j]?.getD 0 ≤ 8) ∧ (0 ≤ (g.take i).sum ∧ (g.take i).sum ≤ 8 * (i : Int)) ∧ s_ = ⟨[(1, .ptr 0 0 0 1), (3, .int .i64 (g.take i).sum), (14, .ro (.ints .i64 g)), (15, .int .i64 (g.length : Nat)), (16, .int .i64 (i : Nat))], [(0, some ⟨.rows 4 [[.int .u8 s, .int .u8 sh, .int .i64 m, .ro (.ints .i64 g)]], true, 24⟩)], 1⟩ ∧ m_ = g.length - i) _ ⟨[(1, .ptr 0 0 0 1), (3, .int .i64 (g.take 0).sum), (14, .ro (.ints .i64 g)), (15, .int .i64 (g.length : Nat)), (16, .int .i64 (0 : Nat))], [(0, some ⟨.rows 4 [[.int .u8 s, .int .u8 sh, .int .i64 m, .ro (.ints .i64 g)]], true, 24⟩)], 1⟩ ⟨by simp [getT, PV.lo, lo1], by simp [getH, Blk.lo, Cells.lo, lo1], rfl, by omega⟩ ⟨(0), by omega, by omega, by simp, by simp, rfl, rfl⟩ ?_
    rintro m_ s_ ⟨i, hL12_0, hL12_1, hL12_2, hL12_3, rfl, rfl⟩ KL12 hL12
    have hw : IntKind.i64.wrap ((i : Int) + 1) = (((i + 1 : Nat)) : Int) := wnext (by omega)
    have hs : i < g.length → (g.take (i + 1)).sum = (g.take i).sum + g[i]?.getD 0 := fun h => sum_take h
    refine swp_seq fun K13 hK13 => ?_
    refine swp_region ty_ok ?_
    try simp (maxSteps := 1000000)
    repeat' (first | apply And.intro | intro _)
    any_goals (first | (refine hK13 _ ?_; clear hK13) | (first | omega | (simp only [IntKind.wrap_i64] at *; omega) | (simp_all; done) | (simp_all; omega)))
    refine swp_seq fun K14 hK14 => ?_
    refine swp_if fun C15 hC15 => ?_
    try simp (maxSteps := 1000000)
    refine hC15 _ (fun hc15 => ?_) (fun hc15 => ?_)
    · clear hC15
      try simp at hc15
      refine swp_skip ?_
      simp only [thn, inBlk]
      refine hK14 _ ?_; clear hK14
      refine swp_seq fun K16 hK16 => ?_
      refine swp_block ?_
      refine swp_seq fun K17 hK17 => ?_
      refine swp_region ty_ok ?_
      try simp (maxSteps := 1000000)
      repeat' (first | apply And.intro | intro _)
      any_goals (first | (refine hK17 _ ?_; clear hK17) | (first | omega | (simp only [IntKind.wrap_i64] at *; omega) | (simp_all; done) | (simp_all; omega)))
      refine swp_seq fun K18 hK18 => ?_
      refine swp_seq fun K19 hK19 => ?_
      refine swp_region ty_ok ?_
      try simp (maxSteps := 1000000)
      repeat' (first | apply And.intro | intro _)
      any_goals (first | (refine hK19 _ ?_; clear hK19) | (first | omega | (simp only [IntKind.wrap_i64] at *; omega) | (simp_all; done) | (simp_all; omega)))
      refine swp_if fun C20 hC20 => ?_
      try simp (maxSteps := 1000000)
      refine hC20 _ (fun hc20 => ?_) (fun hc20 => ?_)
      · clear hC20
        try simp at hc20
        refine swp_seq fun K21 hK21 => ?_
        refine swp_region ty_ok ?_
        try simp (maxSteps := 1000000)
        repeat' (first | apply And.intro | intro _)
        any_goals (first | (refine hK21 _ ?_; clear hK21) | (first | omega | (simp only [IntKind.wrap_i64] at *; omega) | (simp_all; done) | (simp_all; omega)))
        refine swp_ret ?_
        simp [fnPost, Try.results81, resP, tupOf]
        exact okG_bad1 (by assumption) (by omega) (by omega)
      · clear hC20
        try simp at hc20
        refine swp_skip ?_
        simp only [thn, inBlk]
        refine hK18 _ ?_; clear hK18
        refine swp_region ty_ok ?_
        try simp (maxSteps := 1000000)
        repeat' (first | apply And.intro | intro _)
        any_goals (first | (refine hK16 _ ?_; clear hK16) | (first | omega | (simp only [IntKind.wrap_i64] at *; omega) | (simp_all; done) | (simp_all; omega)))
        refine swp_region ty_ok ?_
        try simp (maxSteps := 1000000)
        repeat' apply And.intro
        any_goals (try omega)
        refine hL12 _ ⟨[(1, .ptr 0 0 0 1), (3, .int .i64 (g.take (i + 1)).sum), (14, .ro (.ints .i64 g)), (15, .int .i64 (g.length : Nat)), (16, .int .i64 ((i + 1) : Nat))], [(0, some ⟨.rows 4 [[.int .u8 s, .int .u8 sh, .int .i64 m, .ro (.ints .i64 g)]], true, 24⟩)], 1⟩ _ ?_ ⟨(i + 1), by omega, by omega, by refine lt_step (by assumption) ?_; omega, by have := hs (by omega); omega, rfl, rfl⟩ ⟨by (have hs2 := hs (by omega); simp [getT, PV.lo, lo1, hw, hs2]; rw [w64 (by omega)]), by simp [getH, Blk.lo, Cells.lo, lo1], rfl, by omega⟩
        omega
    · clear hC15
      try simp at hc15
      refine swp_exit ?_
      simp [thn, inBlk]
      refine hK10 _ ?_; clear hK10
      refine swp_seq fun K22 hK22 => ?_
      refine swp_region ty_ok ?_
      try simp (maxSteps := 1000000)
      repeat' (first | apply And.intro | intro _)
      any_goals (first | (refine hK22 _ ?_; clear hK22) | (first | omega | (simp only [IntKind.wrap_i64] at *; omega) | (simp_all; done) | (simp_all; omega)))
      refine swp_ret ?_
      simp [fnPost, Try.results81, resP, tupOf]
      rw [okG_end2 (by assumption) (by omega) (fun j hj => ((by assumption : ∀ j < i, 1 ≤ g[j]?.getD 0 ∧ g[j]?.getD 0 ≤ 8) j hj).1)]

theorem reedpiperef10_May_ok (rate : Int) (s sh m : Int) (g : List Int) (hx : g.length ≤ 140737488355328) : PCall Try.prog 93 [.int .i64 rate, .agg [.int .u8 s, .int .u8 sh, .int .i64 m, .ro (.ints .i64 g)]] (.bool (mayI rate s sh m g)) := by
  refine pcall_body ty_ok Try.func93 rfl (by rfl) (by simp) ?_
  rw [Try.ntmps93]
  refine swp_seq fun K1 hK1 => ?_
  refine swp_region ty_ok ?_
  try simp (maxSteps := 1000000)
  repeat' (first | apply And.intro | intro _)
  any_goals (first | (refine hK1 _ ?_; clear hK1) | (first | omega | (simp only [IntKind.wrap_i64] at *; omega) | (simp_all; done) | (simp_all; omega)))
  refine swp_seq fun K2 hK2 => ?_
  refine swp_region ty_ok ?_
  refine runs_cut 4 fun R3 hR3 => ?_
  try simp (maxSteps := 1000000) [List.take_succ_cons, List.take_zero, List.drop_succ_cons, List.drop_zero]
  repeat' (first | apply And.intro | intro _)
  any_goals (first | (refine hR3 _ ?_; clear hR3) | (first | omega | (simp only [IntKind.wrap_i64] at *; omega) | (simp_all; done) | (simp_all; omega)))
  refine runs_cut 1 fun R4 hR4 => ?_
  try simp (maxSteps := 1000000) [List.take_succ_cons, List.take_zero, List.drop_succ_cons, List.drop_zero]
  refine .inl ⟨_, reedpiperef06_Many_ok _ _, ?_⟩
  try simp (maxSteps := 1000000)
  repeat' (first | apply And.intro | intro _)
  any_goals (first | (refine hR4 _ ?_; clear hR4) | (first | omega | (simp only [IntKind.wrap_i64] at *; omega) | (simp_all; done) | (simp_all; omega)))
  try simp (maxSteps := 1000000) [List.take_succ_cons, List.take_zero, List.drop_succ_cons, List.drop_zero]
  repeat' (first | apply And.intro | intro _)
  any_goals (first | (refine hK2 _ ?_; clear hK2) | (first | omega | (simp only [IntKind.wrap_i64] at *; omega) | (simp_all; done) | (simp_all; omega)))
  refine swp_seq fun K5 hK5 => ?_
  refine swp_seq fun K6 hK6 => ?_
  refine swp_region ty_ok ?_
  refine runs_cut 9 fun R7 hR7 => ?_
  try simp (maxSteps := 1000000) [List.take_succ_cons, List.take_zero, List.drop_succ_cons, List.drop_zero]
  repeat' (first | apply And.intro | intro _)
  any_goals (first | (refine hR7 _ ?_; clear hR7) | (first | omega | (simp only [IntKind.wrap_i64] at *; omega) | (simp_all; done) | (simp_all; omega)))
  try simp (maxSteps := 1000000) [List.take_succ_cons, List.take_zero, List.drop_succ_cons, List.drop_zero]
  repeat' (first | apply And.intro | intro _)
  any_goals (first | (refine hK6 _ ?_; clear hK6) | (first | omega | (simp only [IntKind.wrap_i64] at *; omega) | (simp_all; done) | (simp_all; omega)))
  refine swp_if fun C8 hC8 => ?_
  try simp (maxSteps := 1000000)
  refine hC8 _ (fun hc8 => ?_) (fun hc8 => ?_)
  · clear hC8
    try simp at hc8
    refine swp_seq fun K9 hK9 => ?_
    refine swp_region ty_ok ?_
    try simp (maxSteps := 1000000)
    repeat' (first | apply And.intro | intro _)
    any_goals (first | (refine hK9 _ ?_; clear hK9) | (first | omega | (simp only [IntKind.wrap_i64] at *; omega) | (simp_all; done) | (simp_all; omega)))
    refine swp_ret ?_
    simp [fnPost, Try.results93, resP, tupOf]
    exact mayI_no (by omega)
  · clear hC8
    try simp at hc8
    refine swp_skip ?_
    simp only [thn, inBlk]
    refine hK5 _ ?_; clear hK5
    refine swp_seq fun K10 hK10 => ?_
    refine swp_seq fun K11 hK11 => ?_
    refine swp_region ty_ok ?_
    try simp (maxSteps := 1000000)
    repeat' (first | apply And.intro | intro _)
    any_goals (first | (refine hK11 _ ?_; clear hK11) | (first | omega | (simp only [IntKind.wrap_i64] at *; omega) | (simp_all; done) | (simp_all; omega)))
    refine swp_if fun C12 hC12 => ?_
    try simp (maxSteps := 1000000)
    refine hC12 _ (fun hc12 => ?_) (fun hc12 => ?_)
    · clear hC12
      try simp at hc12
      refine swp_seq fun K13 hK13 => ?_
      refine swp_region ty_ok ?_
      try simp (maxSteps := 1000000)
      repeat' (first | apply And.intro | intro _)
      any_goals (first | (refine hK13 _ ?_; clear hK13) | (first | omega | (simp only [IntKind.wrap_i64] at *; omega) | (simp_all; done) | (simp_all; omega)))
      refine swp_ret ?_
      simp [fnPost, Try.results93, resP, tupOf]
      rw [mayI_go (by omega), okG_n (by assumption), one_eq]
    · clear hC12
      try simp at hc12
      refine swp_skip ?_
      simp only [thn, inBlk]
      refine hK10 _ ?_; clear hK10
      refine swp_seq fun K14 hK14 => ?_
      refine swp_region ty_ok ?_
      try simp (maxSteps := 1000000)
      repeat' (first | apply And.intro | intro _)
      any_goals (first | (refine hK14 _ ?_; clear hK14) | (first | omega | (simp only [IntKind.wrap_i64] at *; omega) | (simp_all; done) | (simp_all; omega)))
      refine swp_seq fun K15 hK15 => ?_
      refine swp_seq fun K16 hK16 => ?_
      refine swp_region ty_ok ?_
      try simp (maxSteps := 1000000)
      repeat' (first | apply And.intro | intro _)
      any_goals (first | (refine hK16 _ ?_; clear hK16) | (first | omega | (simp only [IntKind.wrap_i64] at *; omega) | (simp_all; done) | (simp_all; omega)))
      refine swp_block ?_
      refine swp_loop 1 (fun m_ s_ => ∃ (i : Nat), (i ≤ g.length) ∧ (s = 2) ∧ (∀ j < i, 1 ≤ g[j]?.getD 0) ∧ (0 ≤ (g.take i).sum ∧ (g.take i).sum ≤ 8) ∧ (s ≤ 3 ∧ sh ≤ 1 ∧ 0 ≤ m ∧ m ≤ MB rate (decide (s = 2))) ∧ s_ = ⟨[(3, .ptr 0 0 0 1), (7, .int .i64 (8 - (g.take i).sum)), (8, .int .i64 (i : Nat))], [(0, some ⟨.rows 4 [[.int .u8 s, .int .u8 sh, .int .i64 m, .ro (.ints .i64 g)]], true, 24⟩)], 1⟩ ∧ m_ = g.length - i) _ ⟨[(3, .ptr 0 0 0 1), (7, .int .i64 (8 - (g.take 0).sum)), (8, .int .i64 (0 : Nat))], [(0, some ⟨.rows 4 [[.int .u8 s, .int .u8 sh, .int .i64 m, .ro (.ints .i64 g)]], true, 24⟩)], 1⟩ ⟨by simp [getT, PV.lo, lo1], by simp [getH, Blk.lo, Cells.lo, lo1], rfl, by omega⟩ ⟨(0), by omega, by omega, by simp, by simp, by omega, rfl, rfl⟩ ?_
      rintro m_ s_ ⟨i, hL17_0, hL17_1, hL17_2, hL17_3, hL17_4, rfl, rfl⟩ KL17 hL17
      have hw : IntKind.i64.wrap ((i : Int) + 1) = (((i + 1 : Nat)) : Int) := wnext (by omega)
      have hs : i < g.length → (g.take (i + 1)).sum = (g.take i).sum + g[i]?.getD 0 := fun h => sum_take h
      refine swp_seq fun K18 hK18 => ?_
      refine swp_seq fun K19 hK19 => ?_
      refine swp_region ty_ok ?_
      try simp (maxSteps := 1000000)
      repeat' (first | apply And.intro | intro _)
      any_goals (first | (refine hK19 _ ?_; clear hK19) | (first | omega | (simp only [IntKind.wrap_i64] at *; omega) | (simp_all; done) | (simp_all; omega)))
      refine swp_if fun C20 hC20 => ?_
      try simp (maxSteps := 1000000)
      refine hC20 _ (fun hc20 => ?_) (fun hc20 => ?_)
      · clear hC20
        try simp at hc20
        refine swp_skip ?_
        simp only [thn, inBlk]
        refine hK18 _ ?_; clear hK18
        refine swp_seq fun K21 hK21 => ?_
        refine swp_block ?_
        refine swp_seq fun K22 hK22 => ?_
        refine swp_seq fun K23 hK23 => ?_
        refine swp_region ty_ok ?_
        refine runs_cut 7 fun R24 hR24 => ?_
        try simp (maxSteps := 1000000) [List.take_succ_cons, List.take_zero, List.drop_succ_cons, List.drop_zero]
        repeat' (first | apply And.intro | intro _)
        any_goals (first | (refine hR24 _ ?_; clear hR24) | (first | omega | (simp only [IntKind.wrap_i64] at *; omega) | (simp_all; done) | (simp_all; omega)))
        try simp (maxSteps := 1000000) [List.take_succ_cons, List.take_zero, List.drop_succ_cons, List.drop_zero]
        repeat' (first | apply And.intro | intro _)
        any_goals (first | (refine hK23 _ ?_; clear hK23) | (first | omega | (simp only [IntKind.wrap_i64] at *; omega) | (simp_all; done) | (simp_all; omega)))
        refine swp_if fun C25 hC25 => ?_
        try simp (maxSteps := 1000000)
        refine hC25 _ (fun hc25 => ?_) (fun hc25 => ?_)
        · clear hC25
          try simp at hc25
          refine swp_seq fun K26 hK26 => ?_
          refine swp_region ty_ok ?_
          try simp (maxSteps := 1000000)
          repeat' (first | apply And.intro | intro _)
          any_goals (first | (refine hK26 _ ?_; clear hK26) | (first | omega | (simp only [IntKind.wrap_i64] at *; omega) | (simp_all; done) | (simp_all; omega)))
          refine swp_ret ?_
          simp [fnPost, Try.results93, resP, tupOf]
          rw [mayI_go (by omega)]; exact okG_bad2 (by assumption) (by omega) (by omega)
        · clear hC25
          try simp at hc25
          refine swp_skip ?_
          simp only [thn, inBlk]
          refine hK22 _ ?_; clear hK22
          refine swp_region ty_ok ?_
          try simp (maxSteps := 1000000)
          repeat' (first | apply And.intro | intro _)
          any_goals (first | (refine hK21 _ ?_; clear hK21) | (first | omega | (simp only [IntKind.wrap_i64] at *; omega) | (simp_all; done) | (simp_all; omega)))
          refine swp_region ty_ok ?_
          try simp (maxSteps := 1000000)
          repeat' apply And.intro
          any_goals (try omega)
          refine hL17 _ ⟨[(3, .ptr 0 0 0 1), (7, .int .i64 (8 - (g.take (i + 1)).sum)), (8, .int .i64 ((i + 1) : Nat))], [(0, some ⟨.rows 4 [[.int .u8 s, .int .u8 sh, .int .i64 m, .ro (.ints .i64 g)]], true, 24⟩)], 1⟩ _ ?_ ⟨(i + 1), by omega, by omega, by refine lt_step (by assumption) ?_; omega, by have := hs (by omega); omega, by omega, rfl, rfl⟩ ⟨by (have hs2 := hs (by omega); simp [getT, PV.lo, lo1, hw, hs2]; rw [w64 (by omega)]; omega), by simp [getH, Blk.lo, Cells.lo, lo1], rfl, by omega⟩
          omega
      · clear hC20
        try simp at hc20
        refine swp_exit ?_
        simp [thn, inBlk]
        refine hK15 _ ?_; clear hK15
        refine swp_seq fun K27 hK27 => ?_
        refine swp_region ty_ok ?_
        try simp (maxSteps := 1000000)
        repeat' (first | apply And.intro | intro _)
        any_goals (first | (refine hK27 _ ?_; clear hK27) | (first | omega | (simp only [IntKind.wrap_i64] at *; omega) | (simp_all; done) | (simp_all; omega)))
        refine swp_ret ?_
        simp [fnPost, Try.results93, resP, tupOf]
        rw [mayI_go (by omega), okG_end (by assumption) (by omega) (by assumption)]; exact decide_eq_decide.2 (by omega)

theorem info_Check_ok (rate : Int) (s sh m : Int) (g : List Int) (hx : g.length ≤ 140737488355328) : PCall Try.prog 34 [.int .i64 rate, .agg [.int .u8 s, .int .u8 sh, .int .i64 m, .ro (.ints .i64 g)]] (.int .i64 (chI rate s sh m g)) := by
  refine pcall_body ty_ok Try.func34 rfl (by rfl) (by simp) ?_
  rw [Try.ntmps34]
  refine swp_seq fun K1 hK1 => ?_
  refine swp_region ty_ok ?_
  try simp (maxSteps := 1000000)
  repeat' (first | apply And.intro | intro _)
  any_goals (first | (refine hK1 _ ?_; clear hK1) | (first | omega | (simp only [IntKind.wrap_i64] at *; omega) | (simp_all; done) | (simp_all; omega)))
  refine swp_seq fun K2 hK2 => ?_
  refine swp_region ty_ok ?_
  refine runs_cut 4 fun R3 hR3 => ?_
  try simp (maxSteps := 1000000) [List.take_succ_cons, List.take_zero, List.drop_succ_cons, List.drop_zero]
  repeat' (first | apply And.intro | intro _)
  any_goals (first | (refine hR3 _ ?_; clear hR3) | (first | omega | (simp only [IntKind.wrap_i64] at *; omega) | (simp_all; done) | (simp_all; omega)))
  refine runs_cut 1 fun R4 hR4 => ?_
  try simp (maxSteps := 1000000) [List.take_succ_cons, List.take_zero, List.drop_succ_cons, List.drop_zero]
  refine .inl ⟨_, band_Many_ok _ _, ?_⟩
  try simp (maxSteps := 1000000)
  repeat' (first | apply And.intro | intro _)
  any_goals (first | (refine hR4 _ ?_; clear hR4) | (first | omega | (simp only [IntKind.wrap_i64] at *; omega) | (simp_all; done) | (simp_all; omega)))
  try simp (maxSteps := 1000000) [List.take_succ_cons, List.take_zero, List.drop_succ_cons, List.drop_zero]
  repeat' (first | apply And.intro | intro _)
  any_goals (first | (refine hK2 _ ?_; clear hK2) | (first | omega | (simp only [IntKind.wrap_i64] at *; omega) | (simp_all; done) | (simp_all; omega)))
  refine swp_seq fun K5 hK5 => ?_
  refine swp_seq fun K6 hK6 => ?_
  refine swp_region ty_ok ?_
  try simp (maxSteps := 1000000)
  repeat' (first | apply And.intro | intro _)
  any_goals (first | (refine hK6 _ ?_; clear hK6) | (first | omega | (simp only [IntKind.wrap_i64] at *; omega) | (simp_all; done) | (simp_all; omega)))
  refine swp_if fun C7 hC7 => ?_
  try simp (maxSteps := 1000000)
  refine hC7 _ (fun hc7 => ?_) (fun hc7 => ?_)
  · clear hC7
    try simp at hc7
    refine swp_seq fun K8 hK8 => ?_
    refine swp_region ty_ok ?_
    try simp (maxSteps := 1000000)
    repeat' (first | apply And.intro | intro _)
    any_goals (first | (refine hK8 _ ?_; clear hK8) | (first | omega | (simp only [IntKind.wrap_i64] at *; omega) | (simp_all; done) | (simp_all; omega)))
    refine swp_ret ?_
    simp [fnPost, Try.results34, resP, tupOf]
    exact (chI_no (eA_pos (by assumption))).trans (eA_no (eA_pos (by assumption))).symm
  · clear hC7
    try simp at hc7
    refine swp_skip ?_
    simp only [thn, inBlk]
    refine hK5 _ ?_; clear hK5
    refine swp_seq fun K9 hK9 => ?_
    refine swp_seq fun K10 hK10 => ?_
    refine swp_region ty_ok ?_
    refine runs_cut 10 fun R11 hR11 => ?_
    try simp (maxSteps := 1000000) [List.take_succ_cons, List.take_zero, List.drop_succ_cons, List.drop_zero]
    repeat' (first | apply And.intro | intro _)
    any_goals (first | (refine hR11 _ ?_; clear hR11) | (first | omega | (simp only [IntKind.wrap_i64] at *; omega) | (simp_all; done) | (simp_all; omega)))
    refine runs_cut 11 fun R12 hR12 => ?_
    try simp (maxSteps := 1000000) [List.take_succ_cons, List.take_zero, List.drop_succ_cons, List.drop_zero]
    repeat' (first | apply And.intro | intro _)
    any_goals (first | (refine hR12 _ ?_; clear hR12) | (first | omega | (simp only [IntKind.wrap_i64] at *; omega) | (simp_all; done) | (simp_all; omega)))
    refine runs_cut 1 fun R13 hR13 => ?_
    try simp (maxSteps := 1000000) [List.take_succ_cons, List.take_zero, List.drop_succ_cons, List.drop_zero]
    first | refine .inl ⟨_, fun hb => .inl ⟨info_grouped_ok _ _ _ _ (by (first | omega | (simp only [IntKind.wrap_i64] at *; omega) | (simp_all; done) | (simp_all; omega))), rfl⟩, ?_⟩ | refine .inl ⟨_, .inl ⟨info_grouped_ok _ _ _ _ (by (first | omega | (simp only [IntKind.wrap_i64] at *; omega) | (simp_all; done) | (simp_all; omega))), rfl⟩, ?_⟩ | refine .inl ⟨_, fun hb => .inl (info_grouped_ok _ _ _ _ (by (first | omega | (simp only [IntKind.wrap_i64] at *; omega) | (simp_all; done) | (simp_all; omega)))), ?_⟩ | refine .inl ⟨_, .inl (info_grouped_ok _ _ _ _ (by (first | omega | (simp only [IntKind.wrap_i64] at *; omega) | (simp_all; done) | (simp_all; omega)))), ?_⟩ | refine .inl ⟨_, by (intros; exact Or.inl (info_grouped_ok _ _ _ _ (by (first | omega | (simp only [IntKind.wrap_i64] at *; omega) | (simp_all; done) | (simp_all; omega))))), ?_⟩ | refine .inl ⟨_, by (intros; exact Or.inl ⟨info_grouped_ok _ _ _ _ (by (first | omega | (simp only [IntKind.wrap_i64] at *; omega) | (simp_all; done) | (simp_all; omega))), rfl⟩), ?_⟩ | refine .inl ⟨_, fun hb => .inl ⟨_, info_grouped_ok _ _ _ _ (by (first | omega | (simp only [IntKind.wrap_i64] at *; omega) | (simp_all; done) | (simp_all; omega))), by (try simp); exact ⟨rfl, rfl⟩⟩, ?_⟩
    repeat' (first | apply And.intro | intro _)
    any_goals (first | (refine hR13 _ ?_; clear hR13) | (first | omega | (simp only [IntKind.wrap_i64] at *; omega) | (simp_all; done) | (simp_all; omega)))
    try simp (maxSteps := 1000000) [List.take_succ_cons, List.take_zero, List.drop_succ_cons, List.drop_zero]
    repeat' (first | apply And.intro | intro _)
    any_goals (first | (refine hK10 _ ?_; clear hK10) | (first | omega | (simp only [IntKind.wrap_i64] at *; omega) | (simp_all; done) | (simp_all; omega)))
    refine swp_if fun C14 hC14 => ?_
    try simp (maxSteps := 1000000)
    refine hC14 _ (fun hc14 => ?_) (fun hc14 => ?_)
    · clear hC14
      try simp at hc14
      refine swp_seq fun K15 hK15 => ?_
      refine swp_region ty_ok ?_
      try simp (maxSteps := 1000000)
      repeat' (first | apply And.intro | intro _)
      any_goals (first | (refine hK15 _ ?_; clear hK15) | (first | omega | (simp only [IntKind.wrap_i64] at *; omega) | (simp_all; done) | (simp_all; omega)))
      refine swp_ret ?_
      simp [fnPost, Try.results34, resP, tupOf]
      exact chI_bad (eA_zero (by assumption)) (by assumption)
    · clear hC14
      try simp at hc14
      refine swp_skip ?_
      simp only [thn, inBlk]
      refine hK9 _ ?_; clear hK9
      refine swp_seq fun K16 hK16 => ?_
      refine swp_region ty_ok ?_
      try simp (maxSteps := 1000000)
      repeat' (first | apply And.intro | intro _)
      any_goals (first | (refine hK16 _ ?_; clear hK16) | (first | omega | (simp only [IntKind.wrap_i64] at *; omega) | (simp_all; done) | (simp_all; omega)))
      refine swp_ret ?_
      simp [fnPost, Try.results34, resP, tupOf]
      exact chI_ok (eA_zero (by assumption)) (by assumption)

theorem reedpiperef10_Check_ok (rate : Int) (s sh m : Int) (g : List Int) (hx : g.length ≤ 140737488355328) : PCall Try.prog 68 [.int .i64 rate, .agg [.int .u8 s, .int .u8 sh, .int .i64 m, .ro (.ints .i64 g)]] (.int .i64 (chI rate s sh m g)) := by
  refine pcall_body ty_ok Try.func68 rfl (by rfl) (by simp) ?_
  rw [Try.ntmps68]
  refine swp_seq fun K1 hK1 => ?_
  refine swp_region ty_ok ?_
  try simp (maxSteps := 1000000)
  repeat' (first | apply And.intro | intro _)
  any_goals (first | (refine hK1 _ ?_; clear hK1) | (first | omega | (simp only [IntKind.wrap_i64] at *; omega) | (simp_all; done) | (simp_all; omega)))
  refine swp_seq fun K2 hK2 => ?_
  refine swp_seq fun K3 hK3 => ?_
  refine swp_region ty_ok ?_
  try simp (maxSteps := 1000000)
  repeat' (first | apply And.intro | intro _)
  any_goals (first | (refine hK3 _ ?_; clear hK3) | (first | omega | (simp only [IntKind.wrap_i64] at *; omega) | (simp_all; done) | (simp_all; omega)))
  refine swp_if fun C4 hC4 => ?_
  try simp (maxSteps := 1000000)
  refine hC4 _ (fun hc4 => ?_) (fun hc4 => ?_)
  · clear hC4
    try simp at hc4
    refine swp_seq fun K5 hK5 => ?_
    refine swp_region ty_ok ?_
    try simp (maxSteps := 1000000)
    repeat' (first | apply And.intro | intro _)
    any_goals (first | (refine hK5 _ ?_; clear hK5) | (first | omega | (simp only [IntKind.wrap_i64] at *; omega) | (simp_all; done) | (simp_all; omega)))
    refine swp_ret ?_
    simp [fnPost, Try.results68, resP, tupOf]
    exact chI_no (by omega)
  · clear hC4
    try simp at hc4
    refine swp_skip ?_
    simp only [thn, inBlk]
    refine hK2 _ ?_; clear hK2
    refine swp_seq fun K6 hK6 => ?_
    refine swp_seq fun K7 hK7 => ?_
    refine swp_region ty_ok ?_
    refine runs_cut 2 fun R8 hR8 => ?_
    try simp (maxSteps := 1000000) [List.take_succ_cons, List.take_zero, List.drop_succ_cons, List.drop_zero]
    repeat' (first | apply And.intro | intro _)
    any_goals (first | (refine hR8 _ ?_; clear hR8) | (first | omega | (simp only [IntKind.wrap_i64] at *; omega) | (simp_all; done) | (simp_all; omega)))
    refine runs_cut 1 fun R9 hR9 => ?_
    try simp (maxSteps := 1000000) [List.take_succ_cons, List.take_zero, List.drop_succ_cons, List.drop_zero]
    refine .inl ⟨_, reedpiperef10_May_ok _ _ _ _ _ (by (first | omega | (simp only [IntKind.wrap_i64] at *; omega) | (simp_all; done) | (simp_all; omega))), ?_⟩
    try simp (maxSteps := 1000000)
    repeat' (first | apply And.intro | intro _)
    any_goals (first | (refine hR9 _ ?_; clear hR9) | (first | omega | (simp only [IntKind.wrap_i64] at *; omega) | (simp_all; done) | (simp_all; omega)))
    try simp (maxSteps := 1000000) [List.take_succ_cons, List.take_zero, List.drop_succ_cons, List.drop_zero]
    repeat' (first | apply And.intro | intro _)
    any_goals (first | (refine hK7 _ ?_; clear hK7) | (first | omega | (simp only [IntKind.wrap_i64] at *; omega) | (simp_all; done) | (simp_all; omega)))
    refine swp_if fun C10 hC10 => ?_
    try simp (maxSteps := 1000000)
    refine hC10 _ (fun hc10 => ?_) (fun hc10 => ?_)
    · clear hC10
      try simp at hc10
      refine swp_seq fun K11 hK11 => ?_
      refine swp_region ty_ok ?_
      try simp (maxSteps := 1000000)
      repeat' (first | apply And.intro | intro _)
      any_goals (first | (refine hK11 _ ?_; clear hK11) | (first | omega | (simp only [IntKind.wrap_i64] at *; omega) | (simp_all; done) | (simp_all; omega)))
      refine swp_ret ?_
      simp [fnPost, Try.results68, resP, tupOf]
      rw [chI_may (by omega), (by assumption : mayI rate s sh m g = false)]; rfl
    · clear hC10
      try simp at hc10
      refine swp_skip ?_
      simp only [thn, inBlk]
      refine hK6 _ ?_; clear hK6
      refine swp_seq fun K12 hK12 => ?_
      refine swp_region ty_ok ?_
      try simp (maxSteps := 1000000)
      repeat' (first | apply And.intro | intro _)
      any_goals (first | (refine hK12 _ ?_; clear hK12) | (first | omega | (simp only [IntKind.wrap_i64] at *; omega) | (simp_all; done) | (simp_all; omega)))
      refine swp_ret ?_
      simp [fnPost, Try.results68, resP, tupOf]
      rw [chI_may (by omega), (by assumption : mayI rate s sh m g = true)]; rfl

theorem info_some_ok (s sh m : Int) (g : List Int) (hx : g.length ≤ 140737488355328) : PCall Try.prog 54 [.agg [.int .u8 s, .int .u8 sh, .int .i64 m, .ro (.ints .i64 g)]] (.bool (mayI 11 s sh m g)) := by
  refine pcall_body ty_ok Try.func54 rfl (by rfl) (by simp) ?_
  rw [Try.ntmps54]
  refine swp_seq fun K1 hK1 => ?_
  refine swp_region ty_ok ?_
  try simp (maxSteps := 1000000)
  repeat' (first | apply And.intro | intro _)
  any_goals (first | (refine hK1 _ ?_; clear hK1) | (first | omega | (simp only [IntKind.wrap_i64] at *; omega) | (simp_all; done) | (simp_all; omega)))
  refine swp_seq fun K2 hK2 => ?_
  refine swp_region ty_ok ?_
  refine runs_cut 1 fun R3 hR3 => ?_
  try simp (maxSteps := 1000000) [List.take_succ_cons, List.take_zero, List.drop_succ_cons, List.drop_zero]
  repeat' (first | apply And.intro | intro _)
  any_goals (first | (refine hR3 _ ?_; clear hR3) | (first | omega | (simp only [IntKind.wrap_i64] at *; omega) | (simp_all; done) | (simp_all; omega)))
  refine runs_cut 1 fun R4 hR4 => ?_
  try simp (maxSteps := 1000000) [List.take_succ_cons, List.take_zero, List.drop_succ_cons, List.drop_zero]
  refine .inl ⟨_, info_Check_ok _ _ _ _ _ (by (first | omega | (simp only [IntKind.wrap_i64] at *; omega) | (simp_all; done) | (simp_all; omega))), ?_⟩
  try simp (maxSteps := 1000000)
  repeat' (first | apply And.intro | intro _)
  any_goals (first | (refine hR4 _ ?_; clear hR4) | (first | omega | (simp only [IntKind.wrap_i64] at *; omega) | (simp_all; done) | (simp_all; omega)))
  try simp (maxSteps := 1000000) [List.take_succ_cons, List.take_zero, List.drop_succ_cons, List.drop_zero]
  repeat' (first | apply And.intro | intro _)
  any_goals (first | (refine hK2 _ ?_; clear hK2) | (first | omega | (simp only [IntKind.wrap_i64] at *; omega) | (simp_all; done) | (simp_all; omega)))
  refine swp_ret ?_
  simp [fnPost, Try.results54, resP, tupOf]
  rw [chI_11]

theorem info_Windows_ok (s sh m : Int) (g : List Int) (hx : g.length ≤ 140737488355328) : PCall Try.prog 21 [.agg [.int .u8 s, .int .u8 sh, .int .i64 m, .ro (.ints .i64 g)]] (.tup [.int .i64 (winI s sh m g), .int .i64 (winE s sh m g)]) := by
  refine pcall_body ty_ok Try.func21 rfl (by rfl) (by simp) ?_
  rw [Try.ntmps21]
  refine swp_seq fun K1 hK1 => ?_
  refine swp_region ty_ok ?_
  try simp (maxSteps := 1000000)
  repeat' (first | apply And.intro | intro _)
  any_goals (first | (refine hK1 _ ?_; clear hK1) | (first | omega | (simp only [IntKind.wrap_i64] at *; omega) | (simp_all; done) | (simp_all; omega)))
  refine swp_seq fun K2 hK2 => ?_
  refine swp_block ?_
  refine swp_seq fun K3 hK3 => ?_
  refine swp_region ty_ok ?_
  refine runs_cut 1 fun R4 hR4 => ?_
  try simp (maxSteps := 1000000) [List.take_succ_cons, List.take_zero, List.drop_succ_cons, List.drop_zero]
  repeat' (first | apply And.intro | intro _)
  any_goals (first | (refine hR4 _ ?_; clear hR4) | (first | omega | (simp only [IntKind.wrap_i64] at *; omega) | (simp_all; done) | (simp_all; omega)))
  refine runs_cut 1 fun R5 hR5 => ?_
  try simp (maxSteps := 1000000) [List.take_succ_cons, List.take_zero, List.drop_succ_cons, List.drop_zero]
  refine .inl ⟨_, info_some_ok _ _ _ _ (by (first | omega | (simp only [IntKind.wrap_i64] at *; omega) | (simp_all; done) | (simp_all; omega))), ?_⟩
  try simp (maxSteps := 1000000)
  repeat' (first | apply And.intro | intro _)
  any_goals (first | (refine hR5 _ ?_; clear hR5) | (first | omega | (simp only [IntKind.wrap_i64] at *; omega) | (simp_all; done) | (simp_all; omega)))
  try simp (maxSteps := 1000000) [List.take_succ_cons, List.take_zero, List.drop_succ_cons, List.drop_zero]
  repeat' (first | apply And.intro | intro _)
  any_goals (first | (refine hK3 _ ?_; clear hK3) | (first | omega | (simp only [IntKind.wrap_i64] at *; omega) | (simp_all; done) | (simp_all; omega)))
  refine swp_if fun C6 hC6 => ?_
  try simp (maxSteps := 1000000)
  refine hC6 _ (fun hc6 => ?_) (fun hc6 => ?_)
  · clear hC6
    try simp at hc6
    refine swp_seq fun K7 hK7 => ?_
    refine swp_region ty_ok ?_
    try simp (maxSteps := 1000000)
    repeat' (first | apply And.intro | intro _)
    any_goals (first | (refine hK7 _ ?_; clear hK7) | (first | omega | (simp only [IntKind.wrap_i64] at *; omega) | (simp_all; done) | (simp_all; omega)))
    refine swp_ret ?_
    simp [fnPost, Try.results21, resP, tupOf]
    have h := grp_bad (w := 0) (by assumption : mayI 11 s sh m g = false); exact ⟨h.2.2.2, h.2.2.1⟩
  · clear hC6
    try simp at hc6
    refine swp_seq fun K8 hK8 => ?_
    refine swp_region ty_ok ?_
    try simp (maxSteps := 1000000)
    repeat' (first | apply And.intro | intro _)
    any_goals (first | (refine hK8 _ ?_; clear hK8) | (first | omega | (simp only [IntKind.wrap_i64] at *; omega) | (simp_all; done) | (simp_all; omega)))
    refine swp_if fun C9 hC9 => ?_
    try simp (maxSteps := 1000000)
    refine hC9 _ (fun hc9 => ?_) (fun hc9 => ?_)
    · clear hC9
      try simp at hc9
      refine swp_seq fun K10 hK10 => ?_
      refine swp_region ty_ok ?_
      try simp (maxSteps := 1000000)
      repeat' (first | apply And.intro | intro _)
      any_goals (first | (refine hK10 _ ?_; clear hK10) | (first | omega | (simp only [IntKind.wrap_i64] at *; omega) | (simp_all; done) | (simp_all; omega)))
      refine swp_ret ?_
      simp [fnPost, Try.results21, resP, tupOf]
      rw [winI, winE, if_pos (by assumption), if_pos (by assumption), if_pos (by assumption)]; exact ⟨rfl, rfl⟩
    · clear hC9
      try simp at hc9
      refine swp_skip ?_
      simp only [thn, inBlk]
      refine hK2 _ ?_; clear hK2
      refine swp_seq fun K11 hK11 => ?_
      refine swp_region ty_ok ?_
      try simp (maxSteps := 1000000)
      repeat' (first | apply And.intro | intro _)
      any_goals (first | (refine hK11 _ ?_; clear hK11) | (first | omega | (simp only [IntKind.wrap_i64] at *; omega) | (simp_all; done) | (simp_all; omega)))
      refine swp_ret ?_
      simp [fnPost, Try.results21, resP, tupOf]
      rw [winI, winE, if_pos (by assumption), if_neg (by assumption), if_pos (by assumption)]; exact ⟨rfl, rfl⟩

theorem reedpiperef10_Many_ok (s sh m : Int) (g : List Int) (hx : g.length ≤ 140737488355328) : PCall Try.prog 94 [.agg [.int .u8 s, .int .u8 sh, .int .i64 m, .ro (.ints .i64 g)]] (.int .i64 (maN s)) := by
  refine pcall_body ty_ok Try.func94 rfl (by rfl) (by simp) ?_
  rw [Try.ntmps94]
  refine swp_seq fun K1 hK1 => ?_
  refine swp_region ty_ok ?_
  try simp (maxSteps := 1000000)
  repeat' (first | apply And.intro | intro _)
  any_goals (first | (refine hK1 _ ?_; clear hK1) | (first | omega | (simp only [IntKind.wrap_i64] at *; omega) | (simp_all; done) | (simp_all; omega)))
  refine swp_seq fun K2 hK2 => ?_
  refine swp_seq fun K3 hK3 => ?_
  refine swp_region ty_ok ?_
  try simp (maxSteps := 1000000)
  repeat' (first | apply And.intro | intro _)
  any_goals (first | (refine hK3 _ ?_; clear hK3) | (first | omega | (simp only [IntKind.wrap_i64] at *; omega) | (simp_all; done) | (simp_all; omega)))
  refine swp_if fun C4 hC4 => ?_
  try simp (maxSteps := 1000000)
  refine hC4 _ (fun hc4 => ?_) (fun hc4 => ?_)
  · clear hC4
    try simp at hc4
    refine swp_seq fun K5 hK5 => ?_
    refine swp_region ty_ok ?_
    try simp (maxSteps := 1000000)
    repeat' (first | apply And.intro | intro _)
    any_goals (first | (refine hK5 _ ?_; clear hK5) | (first | omega | (simp only [IntKind.wrap_i64] at *; omega) | (simp_all; done) | (simp_all; omega)))
    refine swp_ret ?_
    simp [fnPost, Try.results94, resP, tupOf]
    rw [maN, if_pos (by assumption)]
  · clear hC4
    try simp at hc4
    refine swp_skip ?_
    simp only [thn, inBlk]
    refine hK2 _ ?_; clear hK2
    refine swp_seq fun K6 hK6 => ?_
    refine swp_region ty_ok ?_
    try simp (maxSteps := 1000000)
    repeat' (first | apply And.intro | intro _)
    any_goals (first | (refine hK6 _ ?_; clear hK6) | (first | omega | (simp only [IntKind.wrap_i64] at *; omega) | (simp_all; done) | (simp_all; omega)))
    refine swp_ret ?_
    simp [fnPost, Try.results94, resP, tupOf]
    rw [maN, if_neg (by assumption)]

theorem info_Group_ok (s sh m : Int) (g : List Int) (hx : g.length ≤ 140737488355328) (w : Int) : PCall Try.prog 99 [.agg [.int .u8 s, .int .u8 sh, .int .i64 m, .ro (.ints .i64 g)], .int .i64 w] (.tup [.int .i64 (grpN s sh m g w), .int .i64 (grpE s sh m g w)]) := by
  refine pcall_body ty_ok Try.func99 rfl (by rfl) (by simp) ?_
  rw [Try.ntmps99]
  refine swp_seq fun K1 hK1 => ?_
  refine swp_region ty_ok ?_
  try simp (maxSteps := 1000000)
  repeat' (first | apply And.intro | intro _)
  any_goals (first | (refine hK1 _ ?_; clear hK1) | (first | omega | (simp only [IntKind.wrap_i64] at *; omega) | (simp_all; done) | (simp_all; omega)))
  refine swp_seq fun K2 hK2 => ?_
  refine swp_region ty_ok ?_
  refine runs_cut 1 fun R3 hR3 => ?_
  try simp (maxSteps := 1000000) [List.take_succ_cons, List.take_zero, List.drop_succ_cons, List.drop_zero]
  repeat' (first | apply And.intro | intro _)
  any_goals (first | (refine hR3 _ ?_; clear hR3) | (first | omega | (simp only [IntKind.wrap_i64] at *; omega) | (simp_all; done) | (simp_all; omega)))
  refine runs_cut 1 fun R4 hR4 => ?_
  try simp (maxSteps := 1000000) [List.take_succ_cons, List.take_zero, List.drop_succ_cons, List.drop_zero]
  refine .inl ⟨_, info_Windows_ok _ _ _ _ (by (first | omega | (simp only [IntKind.wrap_i64] at *; omega) | (simp_all; done) | (simp_all; omega))), ?_⟩
  try simp (maxSteps := 1000000)
  repeat' (first | apply And.intro | intro _)
  any_goals (first | (refine hR4 _ ?_; clear hR4) | (first | omega | (simp only [IntKind.wrap_i64] at *; omega) | (simp_all; done) | (simp_all; omega)))
  try simp (maxSteps := 1000000) [List.take_succ_cons, List.take_zero, List.drop_succ_cons, List.drop_zero]
  repeat' (first | apply And.intro | intro _)
  any_goals (first | (refine hK2 _ ?_; clear hK2) | (first | omega | (simp only [IntKind.wrap_i64] at *; omega) | (simp_all; done) | (simp_all; omega)))
  refine swp_seq fun K5 hK5 => ?_
  refine swp_seq fun K6 hK6 => ?_
  refine swp_region ty_ok ?_
  try simp (maxSteps := 1000000)
  repeat' (first | apply And.intro | intro _)
  any_goals (first | (refine hK6 _ ?_; clear hK6) | (first | omega | (simp only [IntKind.wrap_i64] at *; omega) | (simp_all; done) | (simp_all; omega)))
  refine swp_if fun C7 hC7 => ?_
  try simp (maxSteps := 1000000)
  refine hC7 _ (fun hc7 => ?_) (fun hc7 => ?_)
  · clear hC7
    try simp at hc7
    refine swp_seq fun K8 hK8 => ?_
    refine swp_region ty_ok ?_
    try simp (maxSteps := 1000000)
    repeat' (first | apply And.intro | intro _)
    any_goals (first | (refine hK8 _ ?_; clear hK8) | (first | omega | (simp only [IntKind.wrap_i64] at *; omega) | (simp_all; done) | (simp_all; omega)))
    refine swp_ret ?_
    simp [fnPost, Try.results99, resP, tupOf]
    have h := grp_bad (w := w) (winE_no (by assumption)); exact ⟨h.2.1, h.1.trans h.2.2.1.symm⟩
  · clear hC7
    try simp at hc7
    refine swp_skip ?_
    simp only [thn, inBlk]
    refine hK5 _ ?_; clear hK5
    refine swp_seq fun K9 hK9 => ?_
    refine swp_seq fun K10 hK10 => ?_
    refine swp_region ty_ok ?_
    try simp (maxSteps := 1000000)
    repeat' (first | apply And.intro | intro _)
    any_goals (first | (refine hK10 _ ?_; clear hK10) | (first | omega | (simp only [IntKind.wrap_i64] at *; omega) | (simp_all; done) | (simp_all; omega)))
    refine swp_if fun C11 hC11 => ?_
    try simp (maxSteps := 1000000)
    refine hC11 _ (fun hc11 => ?_) (fun hc11 => ?_)
    · clear hC11
      try simp at hc11
      refine swp_seq fun K12 hK12 => ?_
      refine swp_region ty_ok ?_
      try simp (maxSteps := 1000000)
      repeat' (first | apply And.intro | intro _)
      any_goals (first | (refine hK12 _ ?_; clear hK12) | (first | omega | (simp only [IntKind.wrap_i64] at *; omega) | (simp_all; done) | (simp_all; omega)))
      refine swp_ret ?_
      simp [fnPost, Try.results99, resP, tupOf]
      have h := grp_arg (w := w) (winE_yes (by assumption)) (by assumption); exact ⟨h.2, h.1⟩
    · clear hC11
      try simp at hc11
      refine swp_skip ?_
      simp only [thn, inBlk]
      refine hK9 _ ?_; clear hK9
      refine swp_seq fun K13 hK13 => ?_
      refine swp_region ty_ok ?_
      try simp (maxSteps := 1000000)
      repeat' (first | apply And.intro | intro _)
      any_goals (first | (refine hK13 _ ?_; clear hK13) | (first | omega | (simp only [IntKind.wrap_i64] at *; omega) | (simp_all; done) | (simp_all; omega)))
      refine swp_seq fun K14 hK14 => ?_
      refine swp_seq fun K15 hK15 => ?_
      refine swp_region ty_ok ?_
      try simp (maxSteps := 1000000)
      repeat' (first | apply And.intro | intro _)
      any_goals (first | (refine hK15 _ ?_; clear hK15) | (first | omega | (simp only [IntKind.wrap_i64] at *; omega) | (simp_all; done) | (simp_all; omega)))
      refine swp_block ?_
      have hm := winE_yes (by assumption)
      obtain ⟨hp1, hp2, hp3⟩ := may_pos hm
      refine swp_loop 1 (fun m_ s_ => ∃ (j : Nat), (j ≤ g.length) ∧ (mayI 11 s sh m g = true) ∧ (0 ≤ w - (g.take j).sum) ∧ (w < g.sum) ∧ (w ≤ 8) ∧ (grp g w = j + grp (g.drop j) (w - (g.take j).sum)) ∧ s_ = ⟨[(2, .ptr 0 0 0 1), (8, .int .i64 (j : Nat)), (9, .int .i64 (w - (g.take j).sum))], [(0, some ⟨.rows 4 [[.int .u8 s, .int .u8 sh, .int .i64 m, .ro (.ints .i64 g)]], true, 24⟩)], 1⟩ ∧ m_ = g.length - j) _ ⟨[(2, .ptr 0 0 0 1), (8, .int .i64 (0 : Nat)), (9, .int .i64 (w - (g.take 0).sum))], [(0, some ⟨.rows 4 [[.int .u8 s, .int .u8 sh, .int .i64 m, .ro (.ints .i64 g)]], true, 24⟩)], 1⟩ ⟨by simp [getT, PV.lo, lo1], by simp [getH, Blk.lo, Cells.lo, lo1], rfl, by omega⟩ ⟨(0), by omega, by exact hm, by (simp; omega), by omega, by omega, by simp, rfl, rfl⟩ ?_
      rintro m_ s_ ⟨j, hL16_0, hL16_1, hL16_2, hL16_3, hL16_4, hL16_5, rfl, rfl⟩ KL16 hL16
      have hj := left_lt (by assumption) (by assumption) (by assumption)
      obtain ⟨hp1, hp2, hp3⟩ := may_pos (by assumption : mayI 11 s sh m g = true)
      have hw : IntKind.i64.wrap ((j : Int) + 1) = (((j + 1 : Nat)) : Int) := wnext (by omega)
      have hs := sum_take hj
      have hgj := of_all hp1 hj
      have hge := sum_ge hj hp1
      have hst := grp_step g (w - (g.take j).sum) j hj (fun _ _ => trivial)
      refine swp_seq fun K17 hK17 => ?_
      refine swp_seq fun K18 hK18 => ?_
      refine swp_region ty_ok ?_
      try simp (maxSteps := 1000000)
      repeat' (first | apply And.intro | intro _)
      any_goals (first | (refine hK18 _ ?_; clear hK18) | (first | omega | (simp only [IntKind.wrap_i64] at *; omega) | (simp_all; done) | (simp_all; omega)))
      refine swp_if fun C19 hC19 => ?_
      try simp (maxSteps := 1000000)
      refine hC19 _ (fun hc19 => ?_) (fun hc19 => ?_)
      · clear hC19
        try simp at hc19
        refine swp_skip ?_
        simp only [thn, inBlk]
        refine hK17 _ ?_; clear hK17
        refine swp_seq fun K20 hK20 => ?_
        refine swp_block ?_
        refine swp_region ty_ok ?_
        try simp (maxSteps := 1000000)
        repeat' (first | apply And.intro | intro _)
        any_goals (first | (refine hK20 _ ?_; clear hK20) | (first | omega | (simp only [IntKind.wrap_i64] at *; omega) | (simp_all; done) | (simp_all; omega)))
        refine swp_region ty_ok ?_
        try simp (maxSteps := 1000000)
        repeat' apply And.intro
        any_goals (try omega)
        refine hL16 _ ⟨[(2, .ptr 0 0 0 1), (8, .int .i64 ((j + 1) : Nat)), (9, .int .i64 (w - (g.take (j + 1)).sum))], [(0, some ⟨.rows 4 [[.int .u8 s, .int .u8 sh, .int .i64 m, .ro (.ints .i64 g)]], true, 24⟩)], 1⟩ _ ?_ ⟨(j + 1), by omega, by assumption, by omega, by omega, by omega, by rw [hs, show w - ((g.take j).sum + g[j]?.getD 0) = w - (g.take j).sum - g[j]?.getD 0 by omega]; rw [if_pos (by omega)] at hst; omega, rfl, rfl⟩ ⟨by (simp [getT, PV.lo, lo1, hw, hs]; rw [w64 (by omega)]; omega), by simp [getH, Blk.lo, Cells.lo, lo1], rfl, by omega⟩
        omega
      · clear hC19
        try simp at hc19
        refine swp_exit ?_
        simp [thn, inBlk]
        refine hK14 _ ?_; clear hK14
        refine swp_seq fun K21 hK21 => ?_
        refine swp_region ty_ok ?_
        try simp (maxSteps := 1000000)
        repeat' (first | apply And.intro | intro _)
        any_goals (first | (refine hK21 _ ?_; clear hK21) | (first | omega | (simp only [IntKind.wrap_i64] at *; omega) | (simp_all; done) | (simp_all; omega)))
        refine swp_ret ?_
        simp [fnPost, Try.results99, resP, tupOf]
        rw [if_neg (by omega)] at hst
        have h := grp_ok (w := w) (by assumption) (by omega)
        refine ⟨h.2.trans ?_, h.1⟩
        omega

theorem reedpiperef10_In_ok (s sh m : Int) (g : List Int) (hg : ∀ x ∈ g, 1 ≤ x) (h8 : g.sum ≤ 8) : PCall Try.prog 114 [.agg [.int .u8 s, .int .u8 sh, .int .i64 m, .ro (.ints .i64 g)]] (.ro (.ints .i64 (inL 0 g))) := by
  have hlen := sum_len hg
  refine pcall_body ty_ok Try.func114 rfl (by rfl) (by simp) ?_
  rw [Try.ntmps114]
  refine swp_seq fun K1 hK1 => ?_
  refine swp_region ty_ok ?_
  try simp (maxSteps := 1000000)
  repeat' (first | apply And.intro | intro _)
  any_goals (first | (refine hK1 _ ?_; clear hK1) | (first | omega | (simp only [IntKind.wrap_i64] at *; omega) | (simp_all; done) | (simp_all; omega)))
  refine swp_seq fun K2 hK2 => ?_
  refine swp_region ty_ok ?_
  try simp (maxSteps := 1000000)
  repeat' (first | apply And.intro | intro _)
  any_goals (first | (refine hK2 _ ?_; clear hK2) | (first | omega | (simp only [IntKind.wrap_i64] at *; omega) | (simp_all; done) | (simp_all; omega)))
  refine swp_seq fun K3 hK3 => ?_
  refine swp_seq fun K4 hK4 => ?_
  refine swp_region ty_ok ?_
  try simp (maxSteps := 1000000)
  repeat' (first | apply And.intro | intro _)
  any_goals (first | (refine hK4 _ ?_; clear hK4) | (first | omega | (simp only [IntKind.wrap_i64] at *; omega) | (simp_all; done) | (simp_all; omega)))
  refine swp_block ?_
  refine swp_own 3 3 (by simp [getT]; rfl) rfl ?_
  refine swp_loop 2 (fun m_ s_ => ∃ (i : Nat), (i ≤ g.length) ∧ s_ = ⟨[(1, .ptr 0 0 0 1), (4, .int .i64 (i : Nat)), (3, .sl 1 0 (inL 0 (g.take i)).length (inL 0 (g.take i)).length)], [(0, some ⟨.rows 4 [[.int .u8 s, .int .u8 sh, .int .i64 m, .ro (.ints .i64 g)]], true, 24⟩), (1, some ⟨.ints .i64 (inL 0 (g.take i)), false, 3⟩)], 2⟩ ∧ m_ = g.length - i) _ ⟨[(1, .ptr 0 0 0 1), (4, .int .i64 (0 : Nat)), (3, .sl 1 0 (inL 0 (g.take 0)).length (inL 0 (g.take 0)).length)], [(0, some ⟨.rows 4 [[.int .u8 s, .int .u8 sh, .int .i64 m, .ro (.ints .i64 g)]], true, 24⟩), (1, some ⟨.ints .i64 (inL 0 (g.take 0)), false, 3⟩)], 2⟩ ⟨by simp [getT, PV.lo, lo1, inL], by simp [getH, Blk.lo, Cells.lo, lo1, inL], rfl, by omega⟩ ⟨(0), by (first | omega | (simp only [IntKind.wrap_i64] at *; omega) | (simp_all; done) | (simp_all; omega)), rfl, rfl⟩ ?_
  rintro m_ s_ ⟨i, hL5_0, rfl, rfl⟩ KL5 hL5
  have hw : IntKind.i64.wrap ((i : Int) + 1) = (((i + 1 : Nat)) : Int) := wnext (by omega)
  refine swp_seq fun K6 hK6 => ?_
  refine swp_seq fun K7 hK7 => ?_
  refine swp_region ty_ok ?_
  try simp (maxSteps := 1000000)
  repeat' (first | apply And.intro | intro _)
  any_goals (first | (refine hK7 _ ?_; clear hK7) | (first | omega | (simp only [IntKind.wrap_i64] at *; omega) | (simp_all; done) | (simp_all; omega)))
  refine swp_if fun C8 hC8 => ?_
  try simp (maxSteps := 1000000)
  refine hC8 _ (fun hc8 => ?_) (fun hc8 => ?_)
  · clear hC8
    try simp at hc8
    refine swp_skip ?_
    simp only [thn, inBlk]
    refine hK6 _ ?_; clear hK6
    refine swp_seq fun K9 hK9 => ?_
    refine swp_block ?_
    refine swp_seq fun K10 hK10 => ?_
    refine swp_region ty_ok ?_
    try simp (maxSteps := 1000000)
    repeat' (first | apply And.intro | intro _)
    any_goals (first | (refine hK10 _ ?_; clear hK10) | (first | omega | (simp only [IntKind.wrap_i64] at *; omega) | (simp_all; done) | (simp_all; omega)))
    refine swp_block ?_
    have hgi := of_all hg (by omega : i < g.length)
    have hli := inL_len (g.take i) 0 fun x hx => hg x (List.mem_of_mem_take hx)
    have hsg := sum_ge (by omega : i < g.length) hg
    refine swp_loop 2 (fun m_ s_ => ∃ (k : Nat), ((k : Int) ≤ g[i]?.getD 0) ∧ (i < g.length) ∧ s_ = ⟨[(1, .ptr 0 0 0 1), (4, .int .i64 (i : Nat)), (5, .int .i64 (k : Nat)), (3, .sl 1 0 ((inL 0 (g.take i)).length + k) ((inL 0 (g.take i)).length + k))], [(0, some ⟨.rows 4 [[.int .u8 s, .int .u8 sh, .int .i64 m, .ro (.ints .i64 g)]], true, 24⟩), (1, some ⟨.ints .i64 (inL 0 (g.take i) ++ List.replicate k (i : Int)), false, 3⟩)], 2⟩ ∧ m_ = (g[i]?.getD 0).toNat - k) _ ⟨[(1, .ptr 0 0 0 1), (4, .int .i64 (i : Nat)), (5, .int .i64 (0 : Nat)), (3, .sl 1 0 ((inL 0 (g.take i)).length + 0) ((inL 0 (g.take i)).length + 0))], [(0, some ⟨.rows 4 [[.int .u8 s, .int .u8 sh, .int .i64 m, .ro (.ints .i64 g)]], true, 24⟩), (1, some ⟨.ints .i64 (inL 0 (g.take i) ++ List.replicate 0 (i : Int)), false, 3⟩)], 2⟩ ⟨by simp [getT, PV.lo, lo1], by simp [getH, Blk.lo, Cells.lo, lo1], rfl, by omega⟩ ⟨(0), by (simp; omega), by omega, rfl, rfl⟩ ?_
    rintro m_ s_ ⟨k, hL11_0, hL11_1, rfl, rfl⟩ KL11 hL11
    have hkw : IntKind.i64.wrap ((k : Int) + 1) = (((k + 1 : Nat)) : Int) := wnext (by omega)
    refine swp_seq fun K12 hK12 => ?_
    refine swp_seq fun K13 hK13 => ?_
    refine swp_region ty_ok ?_
    try simp (maxSteps := 1000000)
    repeat' (first | apply And.intro | intro _)
    any_goals (first | (refine hK13 _ ?_; clear hK13) | (first | omega | (simp only [IntKind.wrap_i64] at *; omega) | (simp_all; done) | (simp_all; omega)))
    refine swp_if fun C14 hC14 => ?_
    try simp (maxSteps := 1000000)
    refine hC14 _ (fun hc14 => ?_) (fun hc14 => ?_)
    · clear hC14
      try simp at hc14
      refine swp_skip ?_
      simp only [thn, inBlk]
      refine hK12 _ ?_; clear hK12
      refine swp_seq fun K15 hK15 => ?_
      refine swp_block ?_
      refine swp_region ty_ok ?_
      refine runs_cut 2 fun R16 hR16 => ?_
      try simp (maxSteps := 1000000) [List.take_succ_cons, List.take_zero, List.drop_succ_cons, List.drop_zero]
      repeat' (first | apply And.intro | intro _)
      any_goals (first | (refine hR16 _ ?_; clear hR16) | (first | omega | (simp only [IntKind.wrap_i64] at *; omega) | (simp_all; done) | (simp_all; omega)))
      refine runs_cut 1 fun R17 hR17 => ?_
      try simp (maxSteps := 1000000) [List.take_succ_cons, List.take_zero, List.drop_succ_cons, List.drop_zero]
      repeat' (first | apply And.intro | intro _)
      any_goals (first | (refine Or.inl (hR17 _ ?_); clear hR17) | (first | omega | (simp only [IntKind.wrap_i64] at *; omega) | (simp_all; done) | (simp_all; omega)))
      try simp (maxSteps := 1000000) [List.take_succ_cons, List.take_zero, List.drop_succ_cons, List.drop_zero]
      repeat' (first | apply And.intro | intro _)
      any_goals (first | (refine hK15 _ ?_; clear hK15) | (first | omega | (simp only [IntKind.wrap_i64] at *; omega) | (simp_all; done) | (simp_all; omega)))
      refine swp_region ty_ok ?_
      try simp (maxSteps := 1000000)
      repeat' apply And.intro
      any_goals (try omega)
      refine hL11 _ ⟨[(1, .ptr 0 0 0 1), (4, .int .i64 (i : Nat)), (5, .int .i64 ((k + 1) : Nat)), (3, .sl 1 0 ((inL 0 (g.take i)).length + (k + 1)) ((inL 0 (g.take i)).length + (k + 1)))], [(0, some ⟨.rows 4 [[.int .u8 s, .int .u8 sh, .int .i64 m, .ro (.ints .i64 g)]], true, 24⟩), (1, some ⟨.ints .i64 (inL 0 (g.take i) ++ List.replicate (k + 1) (i : Int)), false, 3⟩)], 2⟩ _ ?_ ⟨(k + 1), by (first | omega | (simp only [IntKind.wrap_i64] at *; omega) | (simp_all; done) | (simp_all; omega)), by (first | omega | (simp only [IntKind.wrap_i64] at *; omega) | (simp_all; done) | (simp_all; omega)), rfl, rfl⟩ ⟨by simp [getT, PV.lo, lo1, hkw]; omega, by simp [getH, Blk.lo, Cells.lo, lo1, List.replicate_succ'], rfl, by omega⟩
      omega
    · clear hC14
      try simp at hc14
      refine swp_exit ?_
      simp [thn, inBlk]
      refine hK9 _ ?_; clear hK9
      refine swp_region ty_ok ?_
      try simp (maxSteps := 1000000)
      repeat' apply And.intro
      any_goals (try omega)
      refine hL5 _ ⟨[(1, .ptr 0 0 0 1), (4, .int .i64 ((i + 1) : Nat)), (3, .sl 1 0 (inL 0 (g.take (i + 1))).length (inL 0 (g.take (i + 1))).length)], [(0, some ⟨.rows 4 [[.int .u8 s, .int .u8 sh, .int .i64 m, .ro (.ints .i64 g)]], true, 24⟩), (1, some ⟨.ints .i64 (inL 0 (g.take (i + 1))), false, 3⟩)], 2⟩ _ ?_ ⟨(i + 1), by (first | omega | (simp only [IntKind.wrap_i64] at *; omega) | (simp_all; done) | (simp_all; omega)), rfl, rfl⟩ ⟨by (have hk : (g[i]?.getD 0).toNat = k := (by omega); have hsu := inL_succ g 0 i (by omega); rw [hk, Nat.zero_add] at hsu; simp [getT, PV.lo, lo1, hw, hsu]), by (have hk : (g[i]?.getD 0).toNat = k := (by omega); have hsu := inL_succ g 0 i (by omega); rw [hk, Nat.zero_add] at hsu; simp [getH, Blk.lo, Cells.lo, lo1, hsu]), rfl, by omega⟩
      omega
  · clear hC8
    try simp at hc8
    refine swp_exit ?_
    simp [thn, inBlk]
    refine hK3 _ ?_; clear hK3
    refine swp_seq fun K18 hK18 => ?_
    refine swp_region ty_ok ?_
    try simp (maxSteps := 1000000)
    repeat' (first | apply And.intro | intro _)
    any_goals (first | (refine hK18 _ ?_; clear hK18) | (first | omega | (simp only [IntKind.wrap_i64] at *; omega) | (simp_all; done) | (simp_all; omega)))
    refine swp_ret ?_
    simp [fnPost, Try.results114, resP, tupOf]
    rw [List.take_of_length_le (by omega)]

end Go.Proofs.Ytmkgfgdipkagbaa

