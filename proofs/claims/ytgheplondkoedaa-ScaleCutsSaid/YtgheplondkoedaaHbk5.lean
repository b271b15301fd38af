import Derived.Test.YtgheplondkoedaaWf
import Derived.Test.YtgheplondkoedaaTyh
import Derived.Test.YtgheplondkoedaaBkq
import Derived.Test.YtgheplondkoedaaHsrt
import Derived.Test.YtgheplondkoedaaHbk
import Derived.Test.YtgheplondkoedaaHbk2
import Derived.Test.YtgheplondkoedaaHbk3
import Derived.Test.YtgheplondkoedaaHbits
import Derived.Test.YtgheplondkoedaaHrd
import Derived.Test.YtgheplondkoedaaHrdq
import Derived.Test.YtgheplondkoedaaHbits2
import Derived.Test.YtgheplondkoedaaHbk4
namespace Go.Proofs.Ytgheplondkoedaa
set_option linter.unusedVariables false
set_option linter.unusedSimpArgs false
set_option maxRecDepth 10000
open Go Go.Pv

def eI (es : List Nat) : List Int := es.map Int.ofNat
def rkL (N : Nat) (es : List Nat) : List Int := rkP N es es.length
def bPart (i s t : Nat) : List Nat := bUpto i s ++ bAt i s t
def szL (i n : Nat) : List Int := (List.range n).map (fun e => (bSz i e : Int)) ++ List.replicate (bMany i - n) 0
end Go.Proofs.Ytgheplondkoedaa

