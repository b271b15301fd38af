/-
  Plain numbers: a lost frame's lines. No program in sight.
-/
import Derived.WalkKit
namespace Go.Proofs.Ytdcidpgabhbhbaa
set_option linter.unusedVariables false

/-- No line: too great, above or below 0. -/
def oddB (n : Int) : Bool := decide (n < -268435455 ∨ 268435455 < n)
def anyOdd (xs : List Int) : Bool := xs.any oddB

/-- One line of a lost frame. -/
def loseAt (xs ys : List Int) (at_ many : Int) (n : Nat) : Int :=
  if many ≤ 2 ∧ 0 < ys.length then ((xs[n]?.getD 0) * (many + 1 - at_) + (ys[n]?.getD 0) * at_) / (many + 1)
  else if 8 < at_ then 0 else (xs[n]?.getD 0) / 2 ^ at_.toNat
def loseL (xs ys : List Int) (at_ many : Int) : List Int := (List.range 256).map (loseAt xs ys at_ many)
def loseE (xs ys : List Int) (at_ many : Int) : Int :=
  if at_ < 1 ∨ many < at_ ∨ 65536 < many then 2
  else if xs.length ≠ 256 ∨ (ys.length ≠ 256 ∧ ys.length ≠ 0) then 4
  else if anyOdd xs = true ∨ anyOdd ys = true then 2 else 0
def loseR (xs ys : List Int) (at_ many : Int) : List Int := if loseE xs ys at_ many = 0 then loseL xs ys at_ many else []

theorem loseL_len (xs ys : List Int) (at_ many : Int) : (loseL xs ys at_ many).length = 256 := by simp [loseL]

/-- Division rounded down, out of Go's. -/
theorem floor_of (s m : Int) (hm : 0 < m) : s / m = if s.tmod m < 0 then s.tdiv m - 1 else s.tdiv m := by
  have h1 := Int.mul_tdiv_add_tmod s m
  have h2 := Int.tmod_lt_of_pos s hm
  have h3 : -m < s.tmod m := Int.lt_tmod_of_pos s hm
  split
  · rename_i h
    have e : s = (s.tmod m + m) + m * (s.tdiv m - 1) := by rw [Int.mul_sub, Int.mul_one]; omega
    rw [e, Int.add_mul_ediv_left _ _ (by omega), Int.ediv_eq_zero_of_lt (by omega) (by omega)]
    rw [← e]; omega
  · have e : s = s.tmod m + m * s.tdiv m := by omega
    have : s / m = (s.tmod m + m * s.tdiv m) / m := by rw [← e]
    rw [this, Int.add_mul_ediv_left _ _ (by omega), Int.ediv_eq_zero_of_lt (by omega) (by omega)]
    omega

theorem not_odd {n : Int} (h : oddB n = false) : -268435455 ≤ n ∧ n ≤ 268435455 := by
  unfold oddB at h
  have := of_decide_eq_false h
  omega
theorem anyOdd_at {xs : List Int} (h : anyOdd xs = false) (k : Nat) : -268435455 ≤ xs[k]?.getD 0 ∧ xs[k]?.getD 0 ≤ 268435455 := by
  rcases hk : xs[k]? with _ | x
  · simp
  · have := List.any_eq_false.1 h x (List.mem_of_getElem? hk)
    exact not_odd (by simpa using this)
theorem anyOdd_of {xs : List Int} (h : ∀ k, k < xs.length → oddB (xs[k]?.getD 0) = false) : anyOdd xs = false := by
  unfold anyOdd
  rw [List.any_eq_false]
  intro x hx
  obtain ⟨k, hk, rfl⟩ := List.mem_iff_getElem.1 hx
  have := h k hk
  rw [List.getElem?_eq_getElem hk] at this
  simpa using this
theorem anyOdd_yes {xs : List Int} (k : Nat) (hk : k < xs.length) (h : oddB (xs[k]?.getD 0) = true) : anyOdd xs = true := by
  unfold anyOdd
  rw [List.any_eq_true]
  rw [List.getElem?_eq_getElem hk] at h
  exact ⟨_, List.getElem_mem hk, h⟩
theorem loseE_arg {xs ys : List Int} {at_ many : Int} (h : at_ < 1 ∨ many < at_ ∨ 65536 < many) : loseE xs ys at_ many = 2 := by unfold loseE; rw [if_pos h]
theorem loseE_many {xs ys : List Int} {at_ many : Int} (h : ¬ (at_ < 1 ∨ many < at_ ∨ 65536 < many)) (h2 : xs.length ≠ 256 ∨ (ys.length ≠ 256 ∧ ys.length ≠ 0)) : loseE xs ys at_ many = 4 := by unfold loseE; rw [if_neg h, if_pos h2]
theorem loseE_odd {xs ys : List Int} {at_ many : Int} (h : ¬ (at_ < 1 ∨ many < at_ ∨ 65536 < many)) (h2 : ¬ (xs.length ≠ 256 ∨ (ys.length ≠ 256 ∧ ys.length ≠ 0))) (h3 : anyOdd xs = true ∨ anyOdd ys = true) : loseE xs ys at_ many = 2 := by unfold loseE; rw [if_neg h, if_neg h2, if_pos h3]
theorem loseE_ok {xs ys : List Int} {at_ many : Int} (h : ¬ (at_ < 1 ∨ many < at_ ∨ 65536 < many)) (h2 : ¬ (xs.length ≠ 256 ∨ (ys.length ≠ 256 ∧ ys.length ≠ 0))) (h3 : anyOdd xs = false) (h4 : anyOdd ys = false) : loseE xs ys at_ many = 0 := by
  unfold loseE; rw [if_neg h, if_neg h2, if_neg (by rw [h3, h4]; simp)]
theorem loseR_ok {xs ys : List Int} {at_ many : Int} (h : loseE xs ys at_ many = 0) : loseR xs ys at_ many = loseL xs ys at_ many := by unfold loseR; rw [if_pos h]
theorem loseR_no {xs ys : List Int} {at_ many : Int} (h : loseE xs ys at_ many ≠ 0) : loseR xs ys at_ many = [] := by unfold loseR; rw [if_neg h]
theorem loseL_of {xs ys zs : List Int} {at_ many : Int} (hl : zs.length = 256) (h : ∀ j, j < 256 → zs[j]?.getD 0 = loseAt xs ys at_ many j) : zs = loseL xs ys at_ many := by
  apply List.ext_getElem
  · rw [hl, loseL_len]
  · intro j h1 h2
    have := h j (by omega)
    rw [List.getElem?_eq_getElem h1] at this
    simp only [loseL, List.getElem_map, List.getElem_range]
    exact this
end Go.Proofs.Ytdcidpgabhbhbaa
