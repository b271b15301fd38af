import Derived.Test.YtgheplondkoedaaPvz
import Derived.IntWalk
namespace Go.Pv
set_option linter.unusedVariables false
set_option linter.unusedSimpArgs false
open Go
theorem w0 : IntKind.i64.wrap 0 = 0 := by decide
theorem w1 : IntKind.i64.wrap 1 = 1 := by decide
theorem w2 : IntKind.i64.wrap 2 = 2 := by decide
theorem wm1 : IntKind.i64.wrap (-1) = -1 := by decide
theorem w64 {n : Int} (h : -9223372036854775808 ≤ n ∧ n ≤ 9223372036854775807) : IntKind.i64.wrap n = n := by rw [IntKind.wrap_i64]; omega
theorem wnext {i : Nat} (h : i < 9223372036854775807) : IntKind.i64.wrap ((i : Int) + 1) = ((i + 1 : Nat) : Int) := by rw [IntKind.wrap_i64]; omega
theorem and1 (z : Int) : ((BitVec.ofInt 64 z &&& 1#64).toNat : Int) = z % 2 := by
  rw [BitVec.toNat_and, BitVec.toNat_ofInt]
  simp
  omega
theorem fdiv_bd (x d : Int) (hd : 0 < d) (h : -4611686018427387904 ≤ x ∧ x ≤ 4611686018427387904) : -4611686018427387904 ≤ x.fdiv d ∧ x.fdiv d ≤ 4611686018427387904 := by
  rw [Int.fdiv_eq_ediv_of_nonneg _ (by omega)]
  refine ⟨?_, ?_⟩
  · rw [Int.le_ediv_iff_mul_le hd]
    have : -4611686018427387904 * d ≤ -4611686018427387904 * 1 := by
      have : (1 : Int) ≤ d := hd
      omega
    omega
  · refine Int.le_of_lt_add_one ?_
    rw [Int.ediv_lt_iff_lt_mul hd]
    have : (4611686018427387904 + 1) * 1 ≤ (4611686018427387904 + 1) * d := by
      have : (1 : Int) ≤ d := hd
      omega
    omega
theorem take_next {xs ys : List Int} {i : Nat} (h1 : i < xs.length) (h2 : xs.length = ys.length) (h3 : xs.take i = ys.take i) (h4 : xs[i]?.getD 0 = ys[i]?.getD 0) : xs.take (i + 1) = ys.take (i + 1) := by
  rw [List.take_add_one, List.take_add_one, h3]
  rw [List.getElem?_eq_getElem h1, List.getElem?_eq_getElem (by omega : i < ys.length)] at h4 ⊢
  simp only [Option.getD_some] at h4
  rw [h4]
end Go.Pv
namespace Go.Pv
set_option linter.unusedVariables false
set_option linter.unusedSimpArgs false
open Go
theorem minb (n : Nat) : min n IntKind.i64.bits = min n 64 := rfl
end Go.Pv
namespace Go.Pv
set_option linter.unusedVariables false
set_option linter.unusedSimpArgs false
open Go
theorem and1b (z : Int) : (((z % 2 ^ IntKind.i64.bits).toNat &&& 1 % 2 ^ IntKind.i64.bits : Nat) : Int) = z % 2 := by
  show (((z % 2 ^ 64).toNat &&& 1 % 2 ^ 64 : Nat) : Int) = _
  rw [show (1 % 2 ^ 64 : Nat) = 1 by decide, Nat.and_one_is_mod]
  omega
end Go.Pv
namespace Go.Pv
set_option linter.unusedVariables false
set_option linter.unusedSimpArgs false
open Go
def self1 : PV → Bool
  | .bool _ | .int _ _ | .str _ | .nilf | .ro _ | .rop _ _ _ | .fn _ [] => true
  | _ => false
theorem frz_self {H : Nat → Option Blk} {p : PV} (h : self1 p = true) (K : PV → List Nat → Prop) : frz H p K = K p [] := by
  cases p <;> simp [self1] at h <;> try rfl
  case fn f caps => cases caps <;> simp [self1] at h; rfl
theorem frzA_self {H : Nat → Option Blk} : ∀ {ps : List PV} (K : List PV → List Nat → Prop), ps.all self1 = true → frzA H ps K = K ps []
  | [], K, h => rfl
  | p :: ps, K, h => by
    simp only [List.all_cons, Bool.and_eq_true] at h
    simp only [frzA]
    rw [frz_self h.1, frzA_self _ h.2]
    rfl
theorem frzL_self {H : Nat → Option Blk} : ∀ {ps : List PV} (K : List PV → List Nat → Prop), ps.all self1 = true → frzL H ps K = K ps []
  | [], K, h => rfl
  | p :: ps, K, h => by
    simp only [List.all_cons, Bool.and_eq_true] at h
    simp only [frzL]
    have := frz_self (H := H) h.1
    have h1 : ∀ K, frz1 H p K = K p [] := fun K => by
      have h2 := this K
      cases p <;> first | (simp [self1] at h; done) | exact h2 | skip
      rename_i f caps
      cases caps with
      | nil => rfl
      | cons => simp [self1] at h
    rw [h1, frzL_self _ h.2]
    rfl
end Go.Pv
namespace Go.Pv
theorem ifmax (a b : Int) : (if a < b then b else a) = max a b := by omega
theorem ifmin (a b : Int) : (if b < a then b else a) = min a b := by omega
end Go.Pv
namespace Go.Pv
theorem lt_step {i : Nat} {q : Nat → Prop} (h : ∀ j < i, q j) (h2 : q i) : ∀ j < i + 1, q j := fun j hj => by
  rcases Nat.lt_succ_iff_lt_or_eq.1 hj with h3 | h3
  · exact h j h3
  · subst h3; exact h2
end Go.Pv
