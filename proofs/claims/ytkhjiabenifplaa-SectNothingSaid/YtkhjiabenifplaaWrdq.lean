import Derived.Test.YtkhjiabenifplaaWf
import Derived.Test.YtkhjiabenifplaaTyi
import Derived.Test.YtkhjiabenifplaaWbits
import Derived.Test.YtkhjiabenifplaaWrd
namespace Go.Proofs.Ytkhjiabenifplaa
set_option linter.unusedVariables false
set_option linter.unusedSimpArgs false
set_option maxRecDepth 10000
open Go Go.Pv


open Go.RowKit
def rN (b : List Int) (q : Int × Int) (z : Int) : Int := rdN b q.1 q.2 z
def rS (b : List Int) (q : Int × Int) (z : Int) : Int × Int := (rdP b q.1 q.2 z, rdE b q.1 q.2 z)
def Bd (q : Int × Int) : Prop := -9223372036854775808 ≤ q.1 ∧ q.1 ≤ 9223372036854775807
/-- Without an error at the end these bits were read. -/
def Rds (b : List Int) (q q' : Int × Int) (L : List Int) : Prop := q'.2 = 0 → q.2 = 0 ∧ q'.1 = q.1 + L.length ∧ (b.drop q.1.toNat).take L.length = L ∧ (0 < L.length → 0 ≤ q.1 ∧ q.1 + L.length ≤ b.length)
theorem Rds.nil (b : List Int) (q : Int × Int) : Rds b q q [] := fun h => ⟨h, by simp, by simp, fun h => by simp at h⟩
theorem Rds.one {b : List Int} (hb : ∀ y ∈ b, 0 ≤ y) (q : Int × Int) {z : Int} (hz : 0 ≤ z ∧ z ≤ 31) : Rds b q (rS b q z) (bitsOf (rN b q z).toNat z.toNat) := fun h => by
  have h' : rdE b q.1 q.2 z = 0 := h
  unfold rdE at h'
  split at h'
  · rename_i he
    obtain ⟨g1, g2, g3, g4⟩ := getE_zero h'
    obtain ⟨a, ha⟩ := Int.eq_ofNat_of_zero_le g3
    obtain ⟨s, hs⟩ := Int.eq_ofNat_of_zero_le hz.1
    rw [ha, hs] at h' g4
    obtain ⟨q1, q2, q3, q4⟩ := got_put (a := a) (s := s) hb (by omega) (by omega) h'
    have en : rN b q z = (numOf ((b.drop a).take s) : Int) := by
      unfold rN rdN
      rw [if_pos he, ha, hs, q1]
    have ep : (rS b q z).1 = a + s := by
      show rdP b q.1 q.2 z = _
      unfold rdP
      rw [if_pos he, ha, hs, q2]
    rw [bitsOf_len]
    refine ⟨he, by rw [ep]; omega, ?_, fun _ => by omega⟩
    rw [en, ha, hs]
    simp only [Int.toNat_natCast]
    exact q4.symm
  · rename_i hne
    exact absurd h' hne
/-- These bits stand there. -/
def AtB (b : List Int) (p : Int) (L : List Int) : Prop := ∃ xs ys, b = xs ++ L ++ ys ∧ p = (xs.length : Nat)
theorem AtB.get {b : List Int} {p : Int} {n s : Nat} (h : AtB b p (bitsOf n s)) (hs : s ≤ 31) (hn : n < 2 ^ s) : rN b (p, 0) (s : Nat) = n ∧ rS b (p, 0) (s : Nat) = (p + s, 0) := by
  obtain ⟨xs, ys, rfl, rfl⟩ := h
  obtain ⟨g1, g2, g3⟩ := back_get xs ys n s xs.length rfl hs hn
  refine ⟨?_, ?_⟩
  · show rdN _ _ 0 _ = _
    unfold rdN
    rw [if_pos rfl, g1]
  · show (rdP _ _ 0 _, rdE _ _ 0 _) = _
    unfold rdP rdE
    rw [if_pos rfl, if_pos rfl, g2, g3]

end Go.Proofs.Ytkhjiabenifplaa

