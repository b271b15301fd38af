import Derived.Test.YtmkgfgdipkagbaaWf
import Derived.Test.YtmkgfgdipkagbaaTyl
import Derived.Test.YtmkgfgdipkagbaaLband
import Derived.Test.YtmkgfgdipkagbaaLinfo
import Derived.Test.YtmkgfgdipkagbaaLinfo2
import Derived.Test.YtmkgfgdipkagbaaLbits
import Derived.Test.YtmkgfgdipkagbaaLtns
namespace Go.Proofs.Ytmkgfgdipkagbaa
set_option linter.unusedVariables false
set_option linter.unusedSimpArgs false
set_option maxRecDepth 10000
open Go Go.Pv


open Go.RowKit
def mkB (n size : Int) : Int := n % 2 ^ size.toNat
def pk (n size : Int) : List Int := bitsOf (mkB n size).toNat size.toNat
def narB (f : Fl) : Bool := fitB f.co (widB f.fine - 1)
def cszB (f : Fl) : Int := widB f.fine - bitB (narB f)
def cB (f : Fl) (i : Nat) : List Int := (f.co.take i).flatMap fun n => pk n (cszB f)
def filB (s : Int) (f : Fl) : List Int := pk f.len (sz1 s) ++ (pk f.order (sz2 s) ++ (if f.order = 0 then [] else pk (bitB f.down) 1 ++ (pk (bitB (narB f)) 1 ++ cB f f.co.length)))
def hdB (s : Int) (w : List Fl) : List Int := pk w.length (sz0 s) ++ (if 0 < w.length then pk (bitB (w[0]?.getD default).fine) 1 else [])
def fB (s : Int) (w : List Fl) (j : Nat) : List Int := (w.take j).flatMap (filB s)
def winB (s : Int) (w : List Fl) : List Int := hdB s w ++ fB s w w.length
def tB (s : Int) (l : List (List Fl)) (k : Nat) : List Int := (l.take k).flatMap (winB s)
theorem mem_at {α : Type} [Inhabited α] {w : List α} {j : Nat} (h : j < w.length) : w[j]?.getD default ∈ w := by
  rw [List.getElem?_eq_getElem h]
  exact List.getElem_mem h
end Go.Proofs.Ytmkgfgdipkagbaa

