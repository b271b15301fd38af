import Derived.Test.YtgheplondkoedaaWf
import Derived.Test.YtgheplondkoedaaTyh
import Derived.Test.YtgheplondkoedaaHbits
namespace Go.Proofs.Ytgheplondkoedaa
set_option linter.unusedVariables false
set_option linter.unusedSimpArgs false
set_option maxRecDepth 10000
open Go Go.Pv


open Go.RowKit
def rdN (b : List Int) (p e size : Int) : Int := if e = 0 then getN b p size else 0
def rdP (b : List Int) (p e size : Int) : Int := if e = 0 then getP b p size else p
def rdE (b : List Int) (p e size : Int) : Int := if e = 0 then getE b p size else e
def rdQ (b : List Int) (z : Nat → Int) (p : Int) : Nat → Int × Int × Int
  | 0 => (0, p, 0)
  | k + 1 => (rdN b (rdQ b z p k).2.1 (rdQ b z p k).2.2 (z k), rdP b (rdQ b z p k).2.1 (rdQ b z p k).2.2 (z k), rdE b (rdQ b z p k).2.1 (rdQ b z p k).2.2 (z k))
theorem getP_bd {b : List Int} {p size : Int} (hb : b.length ≤ 140737488355328) : 0 ≤ getP b p size ∧ getP b p size ≤ 140737488355328 := by
  unfold getP
  split
  · rename_i h
    obtain ⟨h1, h2, h3, h4⟩ := getE_zero h
    omega
  · omega
theorem getN_bd {b : List Int} {p : Int} {s : Nat} (hp : ∀ y ∈ b, 0 ≤ y) : 0 ≤ getN b p s ∧ getN b p s < ((2 ^ s : Nat) : Int) := by
  have h0 : 0 < 2 ^ s := Nat.pow_pos (by omega)
  by_cases h : getE b p s = 0
  · obtain ⟨h1, h2, h3, h4⟩ := getE_zero h
    obtain ⟨a, rfl⟩ := Int.eq_ofNat_of_zero_le h3
    obtain ⟨g1, g2, g3, g4⟩ := got_put (a := a) (s := s) hp (by omega) (by omega) h
    rw [g1]
    omega
  · rw [getN_no h]
    omega
def rdT (z : Nat → Int) : Nat → Nat
  | 0 => 0
  | k + 1 => rdT z k + (z k).toNat
def rdB (b : List Int) (z : Nat → Int) (p : Int) : Nat → List Int
  | 0 => []
  | k + 1 => rdB b z p k ++ bitsOf (rdQ b z p (k + 1)).1.toNat (z k).toNat
end Go.Proofs.Ytgheplondkoedaa

