import Derived.Test.YtgheplondkoedaaWf
import Derived.Test.YtgheplondkoedaaTyh
import Derived.Test.YtgheplondkoedaaHbits
namespace Go.Proofs.Ytgheplondkoedaa
set_option linter.unusedVariables false
set_option linter.unusedSimpArgs false
set_option maxRecDepth 10000
open Go Go.Pv


open Go.RowKit
def rdN (b : List Int) (p e size : Int) : Int := if e = 0 then getN b p size else 0
def rdP (b : List Int) (p e size : Int) : Int := if e = 0 then getP b p size else p
def rdE (b : List Int) (p e size : Int) : Int := if e = 0 then getE b p size else e
def rdQ (b : List Int) (z : Nat → Int) (p : Int) : Nat → Int × Int × Int
  | 0 => (0, p, 0)
  | k + 1 => (rdN b (rdQ b z p k).2.1 (rdQ b z p k).2.2 (z k), rdP b (rdQ b z p k).2.1 (rdQ b z p k).2.2 (z k), rdE b (rdQ b z p k).2.1 (rdQ b z p k).2.2 (z k))
def rdT (z : Nat → Int) : Nat → Nat
  | 0 => 0
  | k + 1 => rdT z k + (z k).toNat
def rdB (b : List Int) (z : Nat → Int) (p : Int) : Nat → List Int
  | 0 => []
  | k + 1 => rdB b z p k ++ bitsOf (rdQ b z p (k + 1)).1.toNat (z k).toNat
end Go.Proofs.Ytgheplondkoedaa

