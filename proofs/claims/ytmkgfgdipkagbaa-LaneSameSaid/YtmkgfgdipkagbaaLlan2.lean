import Derived.Test.YtmkgfgdipkagbaaWf
import Derived.Test.YtmkgfgdipkagbaaTyl
import Derived.Test.YtmkgfgdipkagbaaLband
import Derived.Test.YtmkgfgdipkagbaaLinfo
import Derived.Test.YtmkgfgdipkagbaaLinfo2
import Derived.Test.YtmkgfgdipkagbaaLbits
import Derived.Test.YtmkgfgdipkagbaaLtns
import Derived.Test.YtmkgfgdipkagbaaLtnp
import Derived.Test.YtmkgfgdipkagbaaLtnl
import Derived.Test.YtmkgfgdipkagbaaLlan
namespace Go.Proofs.Ytmkgfgdipkagbaa
set_option linter.unusedVariables false
set_option linter.unusedSimpArgs false
set_option maxRecDepth 10000
open Go Go.Pv


open Go.RowKit
def filA (s n : Int) (tn : List (List Fl)) : Bool := decide ((tn.length : Int) = n) && !tn.any (badW s)
def grT : List Int := [0, 1, 1, 2, 2, 4, 4, 7, 7, 12, 12, 8191, 0]
def gr (book : Int) : Int := grT[book.toNat]?.getD 0
def outG (q n : Int) : Bool := decide (q < n) || decide (n < -q)
def dimH (book : Int) : Int := if book < 5 then 4 else 2
def fitsB (book v : Int) : Bool := !(decide (gr book < v) || decide (v < -gr book))
end Go.Proofs.Ytmkgfgdipkagbaa

