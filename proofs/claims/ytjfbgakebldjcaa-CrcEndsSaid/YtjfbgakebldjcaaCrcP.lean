/-
  Plain numbers: the sum of bits, as a function on lists. No program in sight.
-/
import Derived.WalkKit
namespace Go.Proofs.Ytjfbgakebldjcaa
set_option linter.unusedVariables false

/-- One step of the sum s with a bit. -/
def cstep (s bit : Nat) : Nat := if s / 32768 = bit then 2 * s % 65536 else (2 * s % 65536) ^^^ 32773

/-- The sum behind the steps with the bits xs. -/
def csum (s : Nat) (xs : List Int) : Nat := xs.foldl (fun s x => cstep s x.toNat) s

theorem cstep_lt (s bit : Nat) : cstep s bit < 65536 := by
  unfold cstep
  split
  · omega
  · exact Nat.xor_lt_two_pow (n := 16) (by omega) (by omega)

theorem csum_lt (s : Nat) (xs : List Int) (h : s < 65536) : csum s xs < 65536 := by
  induction xs generalizing s with
  | nil => exact h
  | cons x r ih => exact ih _ (cstep_lt _ _)

theorem csum_append (s : Nat) (xs ys : List Int) : csum s (xs ++ ys) = csum (csum s xs) ys := by simp [csum]

theorem csum_take (s : Nat) (xs : List Int) (k : Nat) (h : k < xs.length) : csum s (xs.take (k + 1)) = cstep (csum s (xs.take k)) (xs[k]?.getD 0).toNat := by
  rw [List.take_succ_eq_append_getElem h, csum_append]
  simp [csum, h]

/-- Is each of the numbers at most 1? -/
def bitsB (xs : List Int) : Bool := xs.all fun x => decide (x ≤ 1)

/-- What Over answers: the sum and the number of the error. -/
def overS (sum : Int) (xs : List Int) : Int := if 0 ≤ sum ∧ sum ≤ 65535 ∧ bitsB xs = true then (csum sum.toNat xs : Int) else 0
def overE (sum : Int) (xs : List Int) : Int := if 0 ≤ sum ∧ sum ≤ 65535 then (if bitsB xs = true then 0 else 8) else 2

theorem bitsB_at {xs : List Int} (h : bitsB xs = true) (k : Nat) (hk : k < xs.length) : xs[k]?.getD 0 ≤ 1 := by
  unfold bitsB at h
  rw [List.all_eq_true] at h
  have := h xs[k] (List.getElem_mem hk)
  simp [hk]
  simpa using this

theorem bitsB_not {xs : List Int} (k : Nat) (hk : k < xs.length) (h : 1 < xs[k]?.getD 0) : bitsB xs = false := by
  by_cases hb : bitsB xs = true
  · have := bitsB_at hb k hk
    omega
  · simpa using hb

theorem bitsB_of {xs : List Int} (h : ∀ k, k < xs.length → xs[k]?.getD 0 ≤ 1) : bitsB xs = true := by
  unfold bitsB
  rw [List.all_eq_true]
  intro x hx
  obtain ⟨k, hk, rfl⟩ := List.mem_iff_getElem.1 hx
  have := h k hk
  simpa [hk] using this

theorem overS_bad {sum : Int} {xs : List Int} (h : bitsB xs = false) : overS sum xs = 0 := by simp [overS, h]
theorem overE_bad {sum : Int} {xs : List Int} (h0 : 0 ≤ sum) (h1 : sum ≤ 65535) (h : bitsB xs = false) : overE sum xs = 8 := by simp [overE, h, h0, h1]
theorem overS_ok {sum : Int} {xs : List Int} (h0 : 0 ≤ sum) (h1 : sum ≤ 65535) (h : bitsB xs = true) : overS sum xs = csum sum.toNat xs := by simp [overS, h, h0, h1]
theorem overE_ok {sum : Int} {xs : List Int} (h0 : 0 ≤ sum) (h1 : sum ≤ 65535) (h : bitsB xs = true) : overE sum xs = 0 := by simp [overE, h, h0, h1]
theorem overS_out {sum : Int} {xs : List Int} (h : sum < 0 ∨ 65535 < sum) : overS sum xs = 0 := by
  unfold overS; rw [if_neg (by omega)]
theorem overE_out {sum : Int} {xs : List Int} (h : sum < 0 ∨ 65535 < sum) : overE sum xs = 2 := by
  unfold overE; rw [if_neg (by omega)]
end Go.Proofs.Ytjfbgakebldjcaa
