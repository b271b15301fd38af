import Derived.Test.YtmkgfgdipkagbaaWf
import Derived.Test.YtmkgfgdipkagbaaTyl
import Derived.Test.YtmkgfgdipkagbaaLband
import Derived.Test.YtmkgfgdipkagbaaLinfo
import Derived.Test.YtmkgfgdipkagbaaLinfo2
import Derived.Test.YtmkgfgdipkagbaaLbits
import Derived.Test.YtmkgfgdipkagbaaLtns
import Derived.Test.YtmkgfgdipkagbaaLtnp
import Derived.Test.YtmkgfgdipkagbaaLtnl
import Derived.Test.YtmkgfgdipkagbaaLlan
import Derived.Test.YtmkgfgdipkagbaaLlan2
namespace Go.Proofs.Ytmkgfgdipkagbaa
set_option linter.unusedVariables false
set_option linter.unusedSimpArgs false
set_option maxRecDepth 10000
open Go Go.Pv


open Go.RowKit
def okO (O : List Int) (wd : Int) : Bool := decide (2 ≤ O.length ∧ O.length ≤ 50) && (decide (O[0]?.getD 0 = 0) && (decide (O[O.length - 1]?.getD 0 = wd) && (List.range (O.length - 1)).all fun j => decide (O[j]?.getD 0 < O[j + 1]?.getD 0)))
structure OkO (O : List Int) (wd : Int) : Prop where
 len : 2 ≤ O.length ∧ O.length ≤ 50
 zero : O[0]?.getD 0 = 0
 last : O[O.length - 1]?.getD 0 = wd
 inc : ∀ j, j + 1 < O.length → O[j]?.getD 0 < O[j + 1]?.getD 0
theorem OkO.mono {O : List Int} {wd : Int} (h : OkO O wd) {b : Nat} (hb : b < O.length) : ∀ j ≤ b, O[j]?.getD 0 ≤ O[b]?.getD 0 := by
 intro j hj
 induction b with
 | zero => rw [show j = 0 by omega]; omega
 | succ b ih =>
  by_cases he : j = b + 1
  ·rw [he]; omega
  ·have := ih (by omega) (by omega)
   have := h.inc b hb
   omega
/-- The band of a line. -/
def bnd (O : List Int) (i : Int) : Nat := (O.findIdx fun x => decide (i < x)) - 1
def bkA (O : List Int) (se : List (List Sc)) (m gi i : Int) : Int := if (bnd O i : Int) < m then (bkG se gi (bnd O i : Nat)).1 else 0
def okV (O : List Int) (se : List (List Sc)) (m gi i v : Int) : Bool := decide (v = 0) || ((decide (1 ≤ bkA O se m gi i) && decide (bkA O se m gi i ≤ 11)) && fitsB (bkA O se m gi i) v)
def linW (O : List Int) (se : List (List Sc)) (m : Int) (g ln : List Int) (wd w : Nat) : Bool := (List.range wd).all fun i => okV O se m (grp g (w : Nat) : Nat) (i : Nat) (ln[w * wd + i]?.getD 0)
def linB (O : List Int) (se : List (List Sc)) (m : Int) (g ln : List Int) (n wd : Nat) : Bool := decide (ln.length = 256) && (List.range n).all (linW O se m g ln wd)
def linC (rate s m : Int) (g : List Int) (se : List (List Sc)) (ln : List Int) : Bool := if s = 2 then linB (offs rate true) se m g ln 8 32 else linB (offs rate false) se m g ln 1 256
def chL (rate ga s sh m : Int) (g : List Int) (se : List (List Sc)) (st : List (List Int)) (tn : List (List Fl)) (ln : List Int) : Int :=
 if chI rate s sh m g = 0 then (if (decide (0 ≤ ga) && decide (ga ≤ 255)) = true ∧ secB m g se = true ∧ stpB ga m g se st = true ∧ filA s (winI s sh m g) tn = true ∧ linC rate s m g se ln = true then 0 else 8) else chI rate s sh m g
def LenOk (g : List Int) (se : List (List Sc)) (st : List (List Int)) (tn : List (List Fl)) : Prop := (g.length ≤ 1000 ∧ se.length ≤ 1000 ∧ st.length ≤ 1000 ∧ tn.length ≤ 1000) ∧ (∀ w ∈ se, w.length ≤ 1000) ∧ (∀ w ∈ st, w.length ≤ 1000) ∧ ∀ w ∈ tn, w.length ≤ 1000 ∧ ∀ f ∈ w, f.co.length ≤ 1000

end Go.Proofs.Ytmkgfgdipkagbaa

