import Derived.Test.YtgheplondkoedaaWf
import Derived.Test.YtgheplondkoedaaTyh
import Derived.Test.YtgheplondkoedaaHbits
import Derived.Test.YtgheplondkoedaaHrd
namespace Go.Proofs.Ytgheplondkoedaa
set_option linter.unusedVariables false
set_option linter.unusedSimpArgs false
set_option maxRecDepth 10000
open Go Go.Pv


open Go.RowKit
def rN (b : List Int) (q : Int × Int) (z : Int) : Int := rdN b q.1 q.2 z
def rS (b : List Int) (q : Int × Int) (z : Int) : Int × Int := (rdP b q.1 q.2 z, rdE b q.1 q.2 z)
def Bd (q : Int × Int) : Prop := -9223372036854775808 ≤ q.1 ∧ q.1 ≤ 9223372036854775807
/-- Without an error at the end these bits were read. -/
def Rds (b : List Int) (q q' : Int × Int) (L : List Int) : Prop := q'.2 = 0 → q.2 = 0 ∧ q'.1 = q.1 + L.length ∧ (b.drop q.1.toNat).take L.length = L ∧ (0 < L.length → 0 ≤ q.1 ∧ q.1 + L.length ≤ b.length)
theorem Rds.nil (b : List Int) (q : Int × Int) : Rds b q q [] := fun h => ⟨h, by simp, by simp, fun h => by simp at h⟩
theorem Rds.app {b : List Int} {q q1 q2 : Int × Int} {L1 L2 : List Int} (h1 : Rds b q q1 L1) (h2 : Rds b q1 q2 L2) : Rds b q q2 (L1 ++ L2) := fun h => by
  obtain ⟨a1, a2, a3, a4⟩ := h2 h
  obtain ⟨b1, b2, b3, b4⟩ := h1 a1
  rw [List.length_append]
  refine ⟨b1, by push_cast; omega, ?_, fun hl => ?_⟩
  · rw [List.take_add, b3, List.drop_drop]
    congr 1
    by_cases hl : 0 < L1.length
    · have := b4 hl
      rw [show q.1.toNat + L1.length = q1.1.toNat by omega]
      exact a3
    · rw [show q.1.toNat + L1.length = q1.1.toNat by rw [b2]; omega]
      exact a3
  · push_cast
    by_cases hl1 : 0 < L1.length
    · have := b4 hl1
      by_cases hl2 : 0 < L2.length
      · have := a4 hl2
        omega
      · omega
    · have := a4 (by omega)
      omega
theorem Rds.one {b : List Int} (hb : ∀ y ∈ b, 0 ≤ y) (q : Int × Int) {z : Int} (hz : 0 ≤ z ∧ z ≤ 31) : Rds b q (rS b q z) (bitsOf (rN b q z).toNat z.toNat) := fun h => by
  have h' : rdE b q.1 q.2 z = 0 := h
  unfold rdE at h'
  split at h'
  · rename_i he
    obtain ⟨g1, g2, g3, g4⟩ := getE_zero h'
    obtain ⟨a, ha⟩ := Int.eq_ofNat_of_zero_le g3
    obtain ⟨s, hs⟩ := Int.eq_ofNat_of_zero_le hz.1
    rw [ha, hs] at h' g4
    obtain ⟨q1, q2, q3, q4⟩ := got_put (a := a) (s := s) hb (by omega) (by omega) h'
    have en : rN b q z = (numOf ((b.drop a).take s) : Int) := by
      unfold rN rdN
      rw [if_pos he, ha, hs, q1]
    have ep : (rS b q z).1 = a + s := by
      show rdP b q.1 q.2 z = _
      unfold rdP
      rw [if_pos he, ha, hs, q2]
    rw [bitsOf_len]
    refine ⟨he, by rw [ep]; omega, ?_, fun _ => by omega⟩
    rw [en, ha, hs]
    simp only [Int.toNat_natCast]
    exact q4.symm
  · rename_i hne
    exact absurd h' hne
/-- These bits stand there. -/
def AtB (b : List Int) (p : Int) (L : List Int) : Prop := ∃ xs ys, b = xs ++ L ++ ys ∧ p = (xs.length : Nat)
theorem AtB.app {b : List Int} {p : Int} {L1 L2 : List Int} (h : AtB b p (L1 ++ L2)) : AtB b p L1 ∧ AtB b (p + (L1.length : Nat)) L2 := by
  obtain ⟨xs, ys, rfl, rfl⟩ := h
  exact ⟨⟨xs, L2 ++ ys, by simp, rfl⟩, ⟨xs ++ L1, ys, by simp, by rw [List.length_append]; push_cast; rfl⟩⟩
theorem AtB.get {b : List Int} {p : Int} {n s : Nat} (h : AtB b p (bitsOf n s)) (hs : s ≤ 31) (hn : n < 2 ^ s) : rN b (p, 0) (s : Nat) = n ∧ rS b (p, 0) (s : Nat) = (p + s, 0) := by
  obtain ⟨xs, ys, rfl, rfl⟩ := h
  obtain ⟨g1, g2, g3⟩ := back_get xs ys n s xs.length rfl hs hn
  refine ⟨?_, ?_⟩
  · show rdN _ _ 0 _ = _
    unfold rdN
    rw [if_pos rfl, g1]
  · show (rdP _ _ 0 _, rdE _ _ 0 _) = _
    unfold rdP rdE
    rw [if_pos rfl, if_pos rfl, g2, g3]

end Go.Proofs.Ytgheplondkoedaa

