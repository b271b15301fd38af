import Derived.Test.YtkhjiabenifplaaWf
import Derived.Test.YtkhjiabenifplaaTyi
import Derived.Test.YtkhjiabenifplaaWband
import Derived.Test.YtkhjiabenifplaaWinfo
import Derived.Test.YtkhjiabenifplaaWbits
import Derived.Test.YtkhjiabenifplaaWrd
import Derived.Test.YtkhjiabenifplaaWrdq
import Derived.Test.YtkhjiabenifplaaWsct
import Derived.Test.YtkhjiabenifplaaWsct2
namespace Go.Proofs.Ytkhjiabenifplaa
set_option linter.unusedVariables false
set_option linter.unusedSimpArgs false
set_option maxRecDepth 10000
open Go Go.Pv

open Go.RowKit
/-- These bits stand from p to q. -/
def Sd (b : List Int) (p q : Int) (L : List Int) : Prop := 0 ≤ p ∧ q = p + (L.length : Nat) ∧ q ≤ b.length ∧ (b.drop p.toNat).take L.length = L
theorem Sd.nil {b : List Int} {p : Int} (h : 0 ≤ p ∧ p ≤ b.length) : Sd b p p [] := ⟨h.1, by simp, h.2, by simp⟩
theorem Sd.get {b : List Int} (hb : ∀ y ∈ b, 0 ≤ y) {p : Int} {s : Nat} (hs : s ≤ 31) (h : getE b p s = 0) : Sd b p (getP b p s) (bitsOf (getN b p s).toNat s) ∧ 0 ≤ getN b p s ∧ getN b p s < ((2 ^ s : Nat) : Int) := by
  obtain ⟨h1, h2, h3, h4⟩ := getE_zero h
  obtain ⟨a, rfl⟩ := Int.eq_ofNat_of_zero_le h3
  obtain ⟨q1, q2, q3, q4⟩ := got_put (a := a) (s := s) hb hs (by omega) h
  refine ⟨⟨h3, ?_, ?_, ?_⟩, by rw [q1]; omega, by rw [q1]; exact Int.ofNat_lt.2 q3⟩
  · rw [q2, bitsOf_len]
  · rw [q2]; exact h4
  · rw [bitsOf_len, q1, Int.toNat_natCast, Int.toNat_natCast]
    exact q4.symm
/-- A length's fields, read. -/
def lenR (b : List Int) (sz mo left : Int) : Nat → Int → Int → Int × Int × Int
  | 0, _, _ => (0, 0, 8)
  | f + 1, acc, p =>
    if getE b p sz = 0 then
      (if left < acc + getN b p sz then (0, 0, 8)
      else if getN b p sz = mo then lenR b sz mo left f (acc + getN b p sz) (getP b p sz)
      else (acc + getN b p sz, getP b p sz, 0))
    else (0, 0, getE b p sz)
def oddB (k : Int) : Bool := decide (11 < k) && !decide (k = 13)
/-- A section, where so many bands are left: its book, its length, the place behind, the error. -/
def secR (b : List Int) (sz mo left p : Int) : Int × Int × Int × Int :=
  if getE b p 4 = 0 then
    (if oddB (getN b p 4) = true then (0, 0, 0, 8)
    else if (lenR b sz mo left 41 0 (getP b p 4)).2.2 = 0 then
      (if (lenR b sz mo left 41 0 (getP b p 4)).1 = 0 then (0, 0, 0, 8) else (getN b p 4, (lenR b sz mo left 41 0 (getP b p 4)).1, (lenR b sz mo left 41 0 (getP b p 4)).2.1, 0))
    else (0, 0, 0, (lenR b sz mo left 41 0 (getP b p 4)).2.2))
  else (0, 0, 0, getE b p 4)
/-- A group's sections. -/
def grpR (b : List Int) (sz mo : Int) : Nat → Int → Int → List Sc → List Sc × Int × Int
  | 0, _, _, _ => ([], 0, 8)
  | f + 1, left, p, acc =>
    if left ≤ 0 then (acc, p, 0)
    else if (secR b sz mo left p).2.2.2 = 0 then grpR b sz mo f (left - (secR b sz mo left p).2.1) (secR b sz mo left p).2.2.1 (acc ++ [⟨(secR b sz mo left p).1, (secR b sz mo left p).2.1⟩])
    else ([], 0, (secR b sz mo left p).2.2.2)
/-- All groups' sections. -/
def allR (b : List Int) (sz mo m : Int) : Nat → Int → List (List Sc) → List (List Sc) × Int × Int
  | 0, p, acc => (acc, p, 0)
  | k + 1, p, acc =>
    if (grpR b sz mo 41 m p []).2.2 = 0 then allR b sz mo m k (grpR b sz mo 41 m p []).2.1 (acc ++ [(grpR b sz mo 41 m p []).1])
    else ([], 0, (grpR b sz mo 41 m p []).2.2)
theorem aB_cons (s : Int) (w : List Sc) (l : List (List Sc)) : aB s (w :: l) (w :: l).length = wB s w w.length ++ aB s l l.length := by unfold aB; simp
def sgetX (b : List Int) (a s sh m : Int) (g : List Int) : List (List Sc) × Int × Int :=
  if winE s sh m g = 0 then (if getE b a 0 = 0 then allR b (szS s : Nat) (moS s : Nat) m g.length a [] else ([], 0, getE b a 0)) else ([], 0, winE s sh m g)
end Go.Proofs.Ytkhjiabenifplaa

