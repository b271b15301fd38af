import Derived.WalkKit
/-
  Plain numbers: a number's bits, the number of bits, as functions on lists. No program in sight.
-/
namespace Go.Proofs.Ytmkgfgdipkagbaa
set_option linter.unusedVariables false

/-- The bits of a number, so many, the highest first. -/
def bitsOf (n : Nat) : Nat → List Int
  | 0 => []
  | s + 1 => bitsOf (n / 2) s ++ [((n % 2 : Nat) : Int)]

theorem bitsOf_len (n s : Nat) : (bitsOf n s).length = s := by
  induction s generalizing n with
  | zero => rfl
  | succ s ih => simp [bitsOf, ih]

theorem bitsOf_range (n s : Nat) : bitsOf n s = (List.range s).map fun i => ((n / 2 ^ (s - 1 - i) % 2 : Nat) : Int) := by
  induction s generalizing n with
  | zero => rfl
  | succ s ih =>
    rw [bitsOf, ih, List.range_succ, List.map_append]
    congr 1
    · apply List.map_congr_left
      intro i hi
      have hi := List.mem_range.1 hi
      rw [Nat.div_div_eq_div_mul, ← Nat.pow_succ']
      congr 3
      rw [show (s - 1 - i).succ = s + 1 - 1 - i by omega]
    · simp

/-- The first j of the bits. -/
theorem bitsOf_take (n s j : Nat) (hj : j ≤ s) : (bitsOf n s).take j = (List.range j).map fun i => ((n / 2 ^ (s - 1 - i) % 2 : Nat) : Int) := by
  rw [bitsOf_range, ← List.map_take, List.take_range, Nat.min_eq_left hj]

/-- The number of some bits. -/
def numOf (xs : List Int) : Nat := xs.foldl (fun n x => 2 * n + x.toNat) 0

/-! ### What Put and Get answer -/
/-- May a number be put in so many bits? -/
def putOk (n size : Int) : Bool := decide (0 ≤ size ∧ size ≤ 31 ∧ 0 ≤ n ∧ n < 2 ^ size.toNat)
def putL (b : List Int) (n size : Int) : List Int := if putOk n size = true then b ++ bitsOf n.toNat size.toNat else []
def putE (n size : Int) : Int := if putOk n size = true then 0 else 2

/-- The error of Get: 2 (numbers that may not be), 5 (too few bits), 8 (no bit), or 0. -/
def getE (b : List Int) (at_ size : Int) : Int :=
  if 0 ≤ size ∧ size ≤ 31 ∧ 0 ≤ at_ ∧ at_ ≤ b.length then
    (if (b.length : Int) - at_ < size then 5 else if ((b.drop at_.toNat).take size.toNat).all (fun x => decide (x ≤ 1)) = true then 0 else 8)
  else 2
def getN (b : List Int) (at_ size : Int) : Int := if getE b at_ size = 0 then (numOf ((b.drop at_.toNat).take size.toNat) : Int) else 0
def getP (b : List Int) (at_ size : Int) : Int := if getE b at_ size = 0 then at_ + size else 0

end Go.Proofs.Ytmkgfgdipkagbaa

