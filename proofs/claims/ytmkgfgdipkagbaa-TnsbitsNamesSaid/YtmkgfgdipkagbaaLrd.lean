import Derived.Test.YtmkgfgdipkagbaaWb
import Derived.Test.YtmkgfgdipkagbaaTyl
import Derived.Test.YtmkgfgdipkagbaaLbits
namespace Go.Proofs.Ytmkgfgdipkagbaa
set_option linter.unusedVariables false
set_option linter.unusedSimpArgs false
set_option maxRecDepth 10000
open Go Go.Pv


open Go.RowKit
def rdN (b : List Int) (p e size : Int) : Int := if e = 0 then getN b p size else 0
def rdP (b : List Int) (p e size : Int) : Int := if e = 0 then getP b p size else p
def rdE (b : List Int) (p e size : Int) : Int := if e = 0 then getE b p size else e
def rdQ (b : List Int) (z : Nat → Int) (p : Int) : Nat → Int × Int × Int
  | 0 => (0, p, 0)
  | k + 1 => (rdN b (rdQ b z p k).2.1 (rdQ b z p k).2.2 (z k), rdP b (rdQ b z p k).2.1 (rdQ b z p k).2.2 (z k), rdE b (rdQ b z p k).2.1 (rdQ b z p k).2.2 (z k))
theorem getP_bd {b : List Int} {p size : Int} (hb : b.length ≤ 140737488355328) : 0 ≤ getP b p size ∧ getP b p size ≤ 140737488355328 := by
  unfold getP
  split
  · rename_i h
    obtain ⟨h1, h2, h3, h4⟩ := getE_zero h
    omega
  · omega
theorem rdQ_bd {b : List Int} {z : Nat → Int} {p : Int} (hb : b.length ≤ 140737488355328) (hp : -9223372036854775808 ≤ p ∧ p ≤ 9223372036854775807) : ∀ k, -9223372036854775808 ≤ (rdQ b z p k).2.1 ∧ (rdQ b z p k).2.1 ≤ 9223372036854775807
  | 0 => hp
  | k + 1 => by
    have ih := rdQ_bd (z := z) hb hp k
    show -9223372036854775808 ≤ rdP b (rdQ b z p k).2.1 (rdQ b z p k).2.2 (z k) ∧ rdP b (rdQ b z p k).2.1 (rdQ b z p k).2.2 (z k) ≤ 9223372036854775807
    unfold rdP
    split
    · have := getP_bd (b := b) (p := (rdQ b z p k).2.1) (size := z k) hb
      omega
    · exact ih
theorem getN_bd {b : List Int} {p : Int} {s : Nat} (hp : ∀ y ∈ b, 0 ≤ y) : 0 ≤ getN b p s ∧ getN b p s < ((2 ^ s : Nat) : Int) := by
  have h0 : 0 < 2 ^ s := Nat.pow_pos (by omega)
  by_cases h : getE b p s = 0
  · obtain ⟨h1, h2, h3, h4⟩ := getE_zero h
    obtain ⟨a, rfl⟩ := Int.eq_ofNat_of_zero_le h3
    obtain ⟨g1, g2, g3, g4⟩ := got_put (a := a) (s := s) hp (by omega) (by omega) h
    rw [g1]
    omega
  · rw [getN_no h]
    omega
theorem rdQ_n {b : List Int} {z : Nat → Int} {p : Int} {k s : Nat} (hp : ∀ y ∈ b, 0 ≤ y) (hz : z k = s) : 0 ≤ (rdQ b z p (k + 1)).1 ∧ (rdQ b z p (k + 1)).1 < ((2 ^ s : Nat) : Int) := by
  show 0 ≤ rdN b (rdQ b z p k).2.1 (rdQ b z p k).2.2 (z k) ∧ rdN b (rdQ b z p k).2.1 (rdQ b z p k).2.2 (z k) < _
  have h0 : 0 < 2 ^ s := Nat.pow_pos (by omega)
  unfold rdN
  rw [hz]
  split
  · exact getN_bd hp
  · omega
def rdT (z : Nat → Int) : Nat → Nat
  | 0 => 0
  | k + 1 => rdT z k + (z k).toNat
def rdB (b : List Int) (z : Nat → Int) (p : Int) : Nat → List Int
  | 0 => []
  | k + 1 => rdB b z p k ++ bitsOf (rdQ b z p (k + 1)).1.toNat (z k).toNat
theorem take_add_drop (xs : List Int) (m n : Nat) : xs.take (m + n) = xs.take m ++ (xs.drop m).take n := by
  rw [List.take_add]
/-- What was read without an error stands there, as these bits. -/
theorem rdQ_ok {b : List Int} {z : Nat → Int} {p : Int} (hb : ∀ y ∈ b, 0 ≤ y) (hz : ∀ i, 0 ≤ z i ∧ z i ≤ 31) : ∀ k, 0 < k → (rdQ b z p k).2.2 = 0 → 0 ≤ p ∧ (rdQ b z p k).2.1 = p + rdT z k ∧ p + rdT z k ≤ b.length ∧ (b.drop p.toNat).take (rdT z k) = rdB b z p k
  | 0, h, _ => by omega
  | k + 1, _, h => by
    have h' : rdE b (rdQ b z p k).2.1 (rdQ b z p k).2.2 (z k) = 0 := h
    unfold rdE at h'
    split at h'
    · rename_i he
      obtain ⟨g1, g2, g3, g4⟩ := getE_zero h'
      have hpre : 0 ≤ p ∧ (rdQ b z p k).2.1 = p + rdT z k ∧ p + rdT z k ≤ b.length ∧ (b.drop p.toNat).take (rdT z k) = rdB b z p k := by
        cases k with
        | zero => exact ⟨g3, by simp [rdQ, rdT], by have : (rdQ b z p 0).2.1 = p := rfl; simp only [rdT]; omega, by simp [rdT, rdB]⟩
        | succ k => exact rdQ_ok hb hz (k + 1) (by omega) he
      obtain ⟨p0, p1, p2, p3⟩ := hpre
      obtain ⟨a, rfl⟩ := Int.eq_ofNat_of_zero_le p0
      obtain ⟨s, hs⟩ := Int.eq_ofNat_of_zero_le (hz k).1
      have hzk := hz k
      rw [p1, hs] at h'
      have hcast : ((a : Int) + (rdT z k : Nat)) = ((a + rdT z k : Nat) : Int) := by push_cast; rfl
      rw [hcast] at h'
      rw [p1, hs] at g4
      obtain ⟨q1, q2, q3, q4⟩ := got_put (a := a + rdT z k) (s := s) hb (by omega) (by omega) h'
      have en : (rdQ b z a (k + 1)).1 = getN b ((a + rdT z k : Nat) : Int) s := by
        show rdN b (rdQ b z a k).2.1 (rdQ b z a k).2.2 (z k) = _
        unfold rdN
        rw [if_pos he, p1, hs, hcast]
      have ep : (rdQ b z a (k + 1)).2.1 = getP b ((a + rdT z k : Nat) : Int) s := by
        show rdP b (rdQ b z a k).2.1 (rdQ b z a k).2.2 (z k) = _
        unfold rdP
        rw [if_pos he, p1, hs, hcast]
      refine ⟨p0, ?_, ?_, ?_⟩
      · rw [ep, q2]
        simp only [rdT, hs, Int.toNat_natCast]
        push_cast
        omega
      · simp only [rdT, hs, Int.toNat_natCast]
        push_cast
        omega
      · simp only [rdT, rdB]
        rw [take_add_drop, p3, en, q1, hs]
        simp only [Int.toNat_natCast]
        rw [q4, List.drop_drop]
    · rename_i hne
      exact absurd h' hne
/-- Bits that stand there are read. -/
theorem rdQ_back {z : Nat → Int} {n : Nat → Nat} (hz : ∀ i, 0 ≤ z i ∧ z i ≤ 31) (hn : ∀ i, n i < 2 ^ (z i).toNat) (B : Nat → List Int) (hB0 : B 0 = []) (hB : ∀ k, B (k + 1) = B k ++ bitsOf (n k) (z k).toNat) (xs ys : List Int) (K : Nat) : ∀ k ≤ K, (rdQ (xs ++ B K ++ ys) z (xs.length : Nat) k).2 = ((xs.length : Int) + rdT z k, 0) ∧ (0 < k → (rdQ (xs ++ B K ++ ys) z (xs.length : Nat) k).1 = n (k - 1))
  | 0, _ => ⟨by simp [rdQ, rdT], fun h => by omega⟩
  | k + 1, hk => by
    obtain ⟨ih, _⟩ := rdQ_back hz hn B hB0 hB xs ys K k (by omega)
    have hlen : ∀ k, (B k).length = rdT z k := by
      intro k
      induction k with
      | zero => rw [hB0]; rfl
      | succ k ihk => rw [hB, List.length_append, ihk, bitsOf_len]; rfl
    have hpre : ∀ m k, k ≤ m → ∃ t, B m = B k ++ t := by
      intro m
      induction m with
      | zero => intro k h; exact ⟨[], by rw [show k = 0 by omega]; simp⟩
      | succ m ihm =>
        intro k h
        by_cases he : k = m + 1
        · exact ⟨[], by rw [he]; simp⟩
        · obtain ⟨t, ht⟩ := ihm k (by omega)
          exact ⟨t ++ bitsOf (n m) (z m).toNat, by rw [hB, ht, List.append_assoc]⟩
    obtain ⟨t, ht⟩ := hpre K (k + 1) hk
    obtain ⟨s, hs⟩ := Int.eq_ofNat_of_zero_le (hz k).1
    have hnk := hn k
    have hzk := hz k
    rw [hs, Int.toNat_natCast] at hnk
    have hbs : xs ++ B K ++ ys = (xs ++ B k) ++ bitsOf (n k) s ++ (t ++ ys) := by
      rw [ht, hB, hs, Int.toNat_natCast]
      simp only [List.append_assoc]
    obtain ⟨g1, g2, g3⟩ := back_get (xs ++ B k) (t ++ ys) (n k) s (xs.length + rdT z k) (by rw [List.length_append, hlen]) (by omega) hnk
    rw [← hbs] at g1 g2 g3
    have e1 : (rdQ (xs ++ B K ++ ys) z (xs.length : Nat) k).2.1 = ((xs.length + rdT z k : Nat) : Int) := by rw [ih]; push_cast; rfl
    have e2 : (rdQ (xs ++ B K ++ ys) z (xs.length : Nat) k).2.2 = 0 := by rw [ih]
    refine ⟨?_, fun _ => ?_⟩
    · show (rdP _ _ _ (z k), rdE _ _ _ (z k)) = _
      rw [e1, e2, rdP, rdE, if_pos rfl, if_pos rfl, hs, g2, g3]
      simp only [rdT, hs, Int.toNat_natCast]
      push_cast
      rw [Int.add_assoc]
    · show rdN _ _ _ (z k) = _
      rw [e1, e2, rdN, if_pos rfl, hs, g1]
      rfl
theorem rdB_len (b : List Int) (z : Nat → Int) (p : Int) : ∀ k, (rdB b z p k).length = rdT z k
  | 0 => rfl
  | k + 1 => by rw [rdB, List.length_append, rdB_len b z p k, bitsOf_len]; rfl

end Go.Proofs.Ytmkgfgdipkagbaa
