import Derived.Test.YtjkpbhjppjamnaaWb
import Derived.Test.YtjkpbhjppjamnaaTyb
import Derived.Test.YtjkpbhjppjamnaaBkq
import Derived.Test.YtjkpbhjppjamnaaBsrt
import Derived.Test.YtjkpbhjppjamnaaBbk
import Derived.Test.YtjkpbhjppjamnaaBbk2
import Derived.Test.YtjkpbhjppjamnaaBbk3
import Derived.Test.YtjkpbhjppjamnaaBbits
import Derived.Test.YtjkpbhjppjamnaaBrd
import Derived.Test.YtjkpbhjppjamnaaBrdq
import Derived.Test.YtjkpbhjppjamnaaBbits2
namespace Go.Proofs.Ytjkpbhjppjamnaa
set_option linter.unusedVariables false
set_option linter.unusedSimpArgs false
set_option maxRecDepth 10000
open Go Go.Pv

open Go.RowKit
def cN (p r : Nat) : Nat := r / 2 ^ p + 1
def cM (p r : Nat) : Nat := Lib.bitLen (cN p r)
/-- The code of a rank. -/
def codeL (p r : Nat) : List Int := List.replicate (cM p r - 1) 0 ++ bitsOf (cN p r) (cM p r) ++ bitsOf (r % 2 ^ p) p
structure CodeF (p r : Nat) : Prop where
  m : 1 ≤ cM p r ∧ cM p r ≤ 9
  n : cN p r < 2 ^ cM p r ∧ 2 ^ (cM p r - 1) ≤ cN p r
  b : bitsOf (cN p r) (2 * cM p r - 1) = List.replicate (cM p r - 1) 0 ++ bitsOf (cN p r) (cM p r)
  s : (r : Int).fdiv (2 ^ min p 64) = (r / 2 ^ p : Nat)
  a : IntKind.i64.wrap ((r % 2 ^ IntKind.i64.bits &&& (IntKind.i64.wrap (IntKind.i64.wrap (2 ^ min p 64) - 1) % 2 ^ IntKind.i64.bits).toNat : Nat) : Int) = (r % 2 ^ p : Nat)
/-- The place of the one, behind noughts. -/
def zr (b : List Int) : Nat → Nat → Int → Nat × Int × Int
  | 0, z, _ => (z, 0, 8)
  | f + 1, z, p => if getE b p 1 = 0 then (if getN b p 1 = 0 then zr b f (z + 1) (getP b p 1) else (z, getP b p 1, 0)) else (z, 0, getE b p 1)
def zZ (b : List Int) (at_ : Int) : Nat := (zr b 10 0 at_).1
def zP (b : List Int) (at_ : Int) : Int := (zr b 10 0 at_).2.1
def zE (b : List Int) (at_ : Int) : Int := (zr b 10 0 at_).2.2
def hN (b : List Int) (at_ : Int) : Int := getN b (zP b at_) (zZ b at_ : Nat)
def hP (b : List Int) (at_ : Int) : Int := getP b (zP b at_) (zZ b at_ : Nat)
def hE (b : List Int) (at_ : Int) : Int := getE b (zP b at_) (zZ b at_ : Nat)
def lN (p : Nat) (b : List Int) (at_ : Int) : Int := getN b (hP b at_) (p : Nat)
def lP (p : Nat) (b : List Int) (at_ : Int) : Int := getP b (hP b at_) (p : Nat)
def lE (p : Nat) (b : List Int) (at_ : Int) : Int := getE b (hP b at_) (p : Nat)
def rkR (p : Nat) (b : List Int) (at_ : Int) : Int := ((2 : Int) ^ zZ b at_ + hN b at_ - 1) * (2 : Int) ^ p + lN p b at_
def fdE (p N : Nat) (b : List Int) (at_ : Int) : Int := if zE b at_ = 0 then (if hE b at_ = 0 then (if lE p b at_ = 0 then (if rkR p b at_ < N then 0 else 8) else lE p b at_) else hE b at_) else zE b at_
def fdN (p : Nat) (es : List Int) (b : List Int) (at_ : Int) : Int := if fdE p es.length b at_ = 0 then es[(rkR p b at_).toNat]?.getD 0 else 0
def fdP (p : Nat) (es : List Int) (b : List Int) (at_ : Int) : Int := if fdE p es.length b at_ = 0 then lP p b at_ else 0
theorem nn {b : List Int} (hp : ∀ k : Nat, 0 ≤ b[k]?.getD 0 ∧ b[k]?.getD 0 ≤ 255) : ∀ y ∈ b, 0 ≤ y := fun y hy => by
  obtain ⟨k, hk, rfl⟩ := List.getElem_of_mem hy
  have := (hp k).1
  rwa [List.getElem?_eq_getElem hk] at this
structure RkF (p : Nat) (b : List Int) (at_ : Int) : Prop where
  z : zZ b at_ ≤ 9
  s : IntKind.i64.wrap (2 ^ min (zZ b at_) 64) = (2 : Int) ^ zZ b at_
  a : IntKind.i64.wrap ((2 : Int) ^ zZ b at_ + getN b (zP b at_) (zZ b at_ : Nat)) = (2 : Int) ^ zZ b at_ + getN b (zP b at_) (zZ b at_ : Nat)
  o : IntKind.i64.wrap ((2 : Int) ^ zZ b at_ + getN b (zP b at_) (zZ b at_ : Nat) - 1) = (2 : Int) ^ zZ b at_ + getN b (zP b at_) (zZ b at_ : Nat) - 1
  t : IntKind.i64.wrap (((2 : Int) ^ zZ b at_ + getN b (zP b at_) (zZ b at_ : Nat) - 1) * 2 ^ min p 64) = ((2 : Int) ^ zZ b at_ + getN b (zP b at_) (zZ b at_ : Nat) - 1) * (2 : Int) ^ p
  u : IntKind.i64.wrap (((2 : Int) ^ zZ b at_ + getN b (zP b at_) (zZ b at_ : Nat) - 1) * (2 : Int) ^ p) = ((2 : Int) ^ zZ b at_ + getN b (zP b at_) (zZ b at_ : Nat) - 1) * (2 : Int) ^ p
  l : IntKind.i64.wrap (((2 : Int) ^ zZ b at_ + getN b (zP b at_) (zZ b at_ : Nat) - 1) * (2 : Int) ^ p + getN b (hP b at_) (p : Nat)) = rkR p b at_
  r : 0 ≤ rkR p b at_
end Go.Proofs.Ytjkpbhjppjamnaa

