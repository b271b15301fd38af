import Derived.Test.YtgheplondkoedaaBsp
import Derived.KernelRfl
namespace Go.Pv
set_option linter.unusedVariables false
set_option linter.unusedSimpArgs false
open Go
/-! ### The books of codes, as lists -/
def bDim (i : Nat) : Nat := [0, 4, 4, 4, 4, 2, 2, 2, 2, 2, 2, 2, 1].getD i 0
def bLow (i : Nat) : Int := [0, -1, -1, 0, 0, -4, -4, 0, 0, 0, 0, 0, -60].getD i 0
def bHigh (i : Nat) : Int := [0, 1, 1, 2, 2, 4, 4, 7, 7, 12, 12, 16, 60].getD i 0
def bPlain (i : Nat) : Nat := [0, 0, 1, 0, 1, 0, 1, 1, 2, 1, 2, 2, 0].getD i 0
def bWide (i : Nat) : Nat := (bHigh i - bLow i + 1).toNat
def bMany (i : Nat) : Nat := [1, 81, 81, 81, 81, 81, 81, 64, 64, 169, 169, 289, 121].getD i 0
/-- All that holds of each book's kind. -/
structure BkOk (i : Nat) : Prop where
  dim : 1 ≤ bDim i ∧ bDim i ≤ 4
  low : -60 ≤ bLow i ∧ bLow i ≤ 0
  high : 1 ≤ bHigh i ∧ bHigh i ≤ 60
  wide : ((bWide i : Nat) : Int) = bHigh i - bLow i + 1 ∧ 3 ≤ bWide i ∧ bWide i ≤ 121
  many : bWide i ^ bDim i = bMany i ∧ 64 ≤ bMany i ∧ bMany i ≤ 289
  plain : bPlain i ≤ 2
theorem bk_ok {i : Nat} (h1 : 1 ≤ i) (h2 : i ≤ 12) : BkOk i := by
  have : ∀ j : Fin 13, 1 ≤ j.val → (1 ≤ bDim j.val ∧ bDim j.val ≤ 4) ∧ (-60 ≤ bLow j.val ∧ bLow j.val ≤ 0) ∧ (1 ≤ bHigh j.val ∧ bHigh j.val ≤ 60) ∧ (((bWide j.val : Nat) : Int) = bHigh j.val - bLow j.val + 1 ∧ 3 ≤ bWide j.val ∧ bWide j.val ≤ 121) ∧ (bWide j.val ^ bDim j.val = bMany j.val ∧ 64 ≤ bMany j.val ∧ bMany j.val ≤ 289) ∧ bPlain j.val ≤ 2 := by decide +kernel
  obtain ⟨a, b, c, d, e, f⟩ := this ⟨i, by omega⟩ h1
  exact ⟨a, b, c, d, e, f⟩
/-- The digits of an entry: its values. -/
def bDg (i : Nat) : Nat → Nat → List Int
  | 0, _ => []
  | k + 1, e => bDg i k (e / bWide i) ++ [bLow i + (e % bWide i : Nat)]
def bVal (i e : Nat) : List Int := bDg i (bDim i) e
theorem bDg_len (i : Nat) : ∀ (k e : Nat), (bDg i k e).length = k
  | 0, _ => rfl
  | k + 1, e => by rw [bDg, List.length_append, bDg_len i k]; rfl
theorem bDg_bd {i : Nat} (h : BkOk i) : ∀ (k e : Nat), ∀ x ∈ bDg i k e, bLow i ≤ x ∧ x ≤ bHigh i
  | 0, _, x, hx => by cases hx
  | k + 1, e, x, hx => by
    rw [bDg, List.mem_append] at hx
    rcases hx with hx | hx
    · exact bDg_bd h k _ x hx
    · rw [List.mem_singleton] at hx
      have h1 := h.wide
      have : e % bWide i < bWide i := Nat.mod_lt _ (by omega)
      omega
/-- The sum of sizes. -/
def absL (l : List Int) : Nat := (l.map Int.natAbs).sum
def bSz (i e : Nat) : Nat := absL (bVal i e)
theorem absL_app (a b : List Int) : absL (a ++ b) = absL a + absL b := by simp [absL]
theorem bDg_sz {i : Nat} (h : BkOk i) : ∀ (k e : Nat), absL (bDg i k e) ≤ 60 * k
  | 0, _ => by simp [bDg, absL]
  | k + 1, e => by
    rw [bDg, absL_app]
    have h1 := bDg_sz h k (e / bWide i)
    have h2 := bDg_bd h (k + 1) e (bLow i + (e % bWide i : Nat)) (by rw [bDg]; simp)
    have h3 := h.low
    have h4 := h.high
    have : absL [bLow i + ((e % bWide i : Nat) : Int)] = (bLow i + ((e % bWide i : Nat) : Int)).natAbs := by simp [absL]
    rw [this]
    omega
theorem bSz_bd {i : Nat} (h : BkOk i) (e : Nat) : bSz i e ≤ 240 := by
  have := bDg_sz h (bDim i) e
  have := h.dim
  unfold bSz bVal
  omega
/-- The next one: at the last place that may. -/
theorem bDg_up {i : Nat} (h : BkOk i) (k q : Nat) (h1 : bLow i + (q % bWide i : Nat) + 1 ≤ bHigh i) : bDg i (k + 1) (q + 1) = bDg i k (q / bWide i) ++ [bLow i + (q % bWide i : Nat) + 1] := by
  have hw := h.wide
  have h2 : q % bWide i + 1 < bWide i := by omega
  rw [bDg]
  have e1 : (q + 1) % bWide i = q % bWide i + 1 := by
    rw [Nat.add_mod, Nat.mod_eq_of_lt (show 1 < bWide i by omega), Nat.mod_eq_of_lt h2]
  have e2 : (q + 1) / bWide i = q / bWide i := by
    have := Nat.div_add_mod q (bWide i)
    have := Nat.div_add_mod (q + 1) (bWide i)
    rw [e1] at this
    have h3 : bWide i * ((q + 1) / bWide i) = bWide i * (q / bWide i) := by omega
    exact Nat.eq_of_mul_eq_mul_left (by omega) h3
  rw [e1, e2]
  congr 2
  omega
theorem bDg_over {i : Nat} (h : BkOk i) (k q : Nat) (h1 : bHigh i < bLow i + (q % bWide i : Nat) + 1) : bDg i (k + 1) (q + 1) = bDg i k (q / bWide i + 1) ++ [bLow i] := by
  have hw := h.wide
  have hlt : q % bWide i < bWide i := Nat.mod_lt _ (by omega)
  have h2 : q % bWide i + 1 = bWide i := by omega
  rw [bDg]
  have := Nat.div_add_mod q (bWide i)
  have hq : q + 1 = bWide i * (q / bWide i + 1) := by rw [Nat.mul_add]; omega
  have e1 : (q + 1) % bWide i = 0 := by rw [hq]; exact Nat.mul_mod_right _ _
  have e2 : (q + 1) / bWide i = q / bWide i + 1 := by
    rw [hq]
    exact Nat.mul_div_cancel_left _ (by omega)
  rw [e1, e2]
  simp
theorem bDg_zero (i : Nat) : ∀ k, bDg i k 0 = List.replicate k (bLow i)
  | 0 => rfl
  | k + 1 => by rw [bDg, Nat.zero_div, bDg_zero i k, List.replicate_succ']; simp
/-- What the array of sizes holds. -/
def bSzs (i : Nat) : List Int := (List.range (bMany i)).map (fun e => (bSz i e : Int)) ++ List.replicate (289 - bMany i) 0
theorem bSzs_len {i : Nat} (h : BkOk i) : (bSzs i).length = 289 := by
  have := h.many
  simp [bSzs]
  omega
def fzB (i : Nat) (x : Int) : Int := if x < bMany i then bSz i x.toNat else 0
theorem bSzs_at {i : Nat} (h : BkOk i) {x : Int} (h0 : 0 ≤ x ∧ x < 289) : (bSzs i)[x.toNat]?.getD 0 = fzB i x := by
  have := h.many
  unfold bSzs fzB
  by_cases hx : x < bMany i
  · rw [if_pos hx, List.getElem?_append_left (by simp; omega), List.getElem?_map, List.getElem?_range (by omega)]
    rfl
  · rw [if_neg hx, List.getElem?_append_right (by simp; omega), List.getElem?_replicate]
    split <;> rfl
def bPow (i j : Nat) : Nat := bWide i ^ j
theorem bPow_zero (i : Nat) : bPow i 0 = 1 := rfl
theorem bPow_succ (i j : Nat) : bPow i (j + 1) = bPow i j * bWide i := rfl
theorem bPow_le {i j : Nat} (h : BkOk i) (hj : j ≤ bDim i) : bPow i j ≤ 289 := by
  have h1 : bPow i j ≤ bWide i ^ bDim i := Nat.pow_le_pow_right (by have := h.wide; omega) hj
  have := h.many
  omega
theorem bPow_end {i : Nat} (h : BkOk i) : bPow i (bDim i) = bMany i := h.many.1
theorem tmod_nat {a b r : Nat} (h : a % b = r) : (a : Int).tmod (b : Int) = (r : Int) := by rw [← h]; rfl
theorem tdiv_nat {a b r : Nat} (h : a / b = r) : (a : Int).tdiv (b : Int) = (r : Int) := by rw [← h]; rfl
theorem rep_set {j : Nat} {v : Int} {tl : List Int} (h : 0 < j) : (List.replicate j 0 ++ tl).set (j - 1) v = List.replicate (j - 1) 0 ++ v :: tl := by
  obtain ⟨k, rfl⟩ : ∃ k, j = k + 1 := ⟨j - 1, by omega⟩
  rw [Nat.add_sub_cancel, List.replicate_succ', List.append_assoc, List.set_append_right _ _ (by simp)]
  simp
/-- The odometer. -/
def VO (i j q : Nat) : List Int := bDg i j q ++ (List.replicate (bDim i - j) (bLow i) ++ List.replicate (4 - bDim i) 0)
theorem VO_len {i j q : Nat} (h : BkOk i) (hj : j ≤ bDim i) : (VO i j q).length = 4 := by
  have := h.dim
  simp [VO, bDg_len]
  omega
theorem VO_at {i j q : Nat} (hj : 1 ≤ j) : (VO i j q)[j - 1]?.getD 0 = bLow i + (q % bWide i : Nat) := by
  obtain ⟨k, rfl⟩ : ∃ k, j = k + 1 := ⟨j - 1, by omega⟩
  unfold VO
  rw [bDg, Nat.add_sub_cancel, List.append_assoc, List.getElem?_append_right (by rw [bDg_len]; exact Nat.le_refl _), bDg_len, Nat.sub_self]
  rfl
theorem VO_set {i j q : Nat} (x : Int) (hj : 1 ≤ j) : (VO i j q).set (j - 1) x = bDg i (j - 1) (q / bWide i) ++ (x :: (List.replicate (bDim i - j) (bLow i) ++ List.replicate (4 - bDim i) 0)) := by
  obtain ⟨k, rfl⟩ : ∃ k, j = k + 1 := ⟨j - 1, by omega⟩
  unfold VO
  rw [bDg, Nat.add_sub_cancel, List.append_assoc, List.set_append_right _ _ (by rw [bDg_len]; exact Nat.le_refl _), bDg_len, Nat.sub_self]
  rfl
theorem VO_low {i j q : Nat} (hj : 1 ≤ j) (hd : j ≤ bDim i) : (VO i j q).set (j - 1) (bLow i) = VO i (j - 1) (q / bWide i) := by
  rw [VO_set _ hj, VO, show bDim i - (j - 1) = (bDim i - j) + 1 by omega, List.replicate_succ]
  rfl
theorem VO_brk {i j q n : Nat} (h : BkOk i) (hj : 1 ≤ j) (hd : j ≤ bDim i) (hI : bDg i j (q + 1) ++ List.replicate (bDim i - j) (bLow i) = bDg i (bDim i) (n + 1)) (hc : bLow i + (q % bWide i : Nat) + 1 ≤ bHigh i) : (VO i j q).set (j - 1) (bLow i + (q % bWide i : Nat) + 1) = VO i (bDim i) (n + 1) := by
  rw [VO_set _ hj, VO, ← hI, Nat.sub_self]
  obtain ⟨k, rfl⟩ : ∃ k, j = k + 1 := ⟨j - 1, by omega⟩
  rw [bDg_up h k q hc]
  simp
theorem VO_nxt {i j q n : Nat} (h : BkOk i) (hj : 1 ≤ j) (hd : j ≤ bDim i) (hI : bDg i j (q + 1) ++ List.replicate (bDim i - j) (bLow i) = bDg i (bDim i) (n + 1)) (hc : bHigh i < bLow i + (q % bWide i : Nat) + 1) : bDg i (j - 1) (q / bWide i + 1) ++ List.replicate (bDim i - (j - 1)) (bLow i) = bDg i (bDim i) (n + 1) := by
  obtain ⟨k, rfl⟩ : ∃ k, j = k + 1 := ⟨j - 1, by omega⟩
  rw [bDg_over h k q hc] at hI
  rw [← hI, Nat.add_sub_cancel, show bDim i - k = (bDim i - (k + 1)) + 1 by omega, List.replicate_succ]
  simp
theorem VO_end {i q n : Nat} (hI : bDg i 0 (q + 1) ++ List.replicate (bDim i - 0) (bLow i) = bDg i (bDim i) (n + 1)) : VO i 0 q = VO i (bDim i) (n + 1) := by
  rw [VO, VO, ← hI, Nat.sub_self]
  simp [bDg]
theorem VO_zero {i : Nat} (h : BkOk i) : List.replicate (bDim i) (bLow i) ++ List.replicate (4 - bDim i) 0 = VO i (bDim i) 0 := by
  rw [VO, bDg_zero, Nat.sub_self]
  simp
theorem set_map {α β : Type} (f : α → β) (l : List α) (j : Nat) (v : α) (h : j < l.length) : List.take j (List.map f l) ++ f v :: List.drop (j + 1) (List.map f l) = List.map f (l.set j v) := by
  rw [← List.map_take, ← List.map_drop, ← List.map_cons, ← List.map_append, List.set_eq_take_append_cons_drop, if_pos h]
theorem map_at {k : IntKind} {l : List Int} {j : Nat} (h : j < l.length) : (Option.map (PV.int k) l[j]?).getD .any = .int k (l[j]?.getD 0) := by
  rw [List.getElem?_eq_getElem h]
  rfl
def outL (i n : Nat) : List Int := (List.range n).map (fun e => (bSz i e : Int)) ++ List.replicate (289 - n) 0
theorem outL_len {i n : Nat} (h : n ≤ 289) : (outL i n).length = 289 := by simp [outL]; omega
theorem outL_set {i n : Nat} (h : n < 289) : (outL i n).set n (bSz i n) = outL i (n + 1) := by
  unfold outL
  rw [List.set_append_right _ _ (by simp), List.range_succ, List.map_append, List.length_map, List.length_range, Nat.sub_self, show 289 - n = (289 - (n + 1)) + 1 by omega, List.replicate_succ]
  simp
theorem outL_end (i : Nat) : outL i (bMany i) = bSzs i := rfl
theorem outL_zero (i : Nat) : outL i 0 = List.replicate 289 0 := rfl
theorem absL_take {l : List Int} {x : Nat} (h : x < l.length) : absL (l.take (x + 1)) = absL (l.take x) + (l[x]?.getD 0).natAbs := by
  rw [List.take_succ_eq_append_getElem h, absL_app, List.getElem?_eq_getElem h]
  simp [absL]
theorem absL_le (l : List Int) (x : Nat) : absL (l.take x) ≤ absL l := by
  have := absL_app (l.take x) (l.drop x)
  rw [List.take_append_drop] at this
  omega
theorem max_abs (z : Int) : max z (-z) = (z.natAbs : Int) := by omega
end Go.Pv

