import Derived.Test.YtmkgfgdipkagbaaWb
import Derived.Test.YtmkgfgdipkagbaaTyl
import Derived.Test.YtmkgfgdipkagbaaWf
import Derived.Test.YtmkgfgdipkagbaaLtns
namespace Go.Proofs.Ytmkgfgdipkagbaa
set_option linter.unusedVariables false
set_option linter.unusedSimpArgs false
set_option maxRecDepth 10000
open Go Go.Pv


def FlOk (f : Fl) : Prop := (-9223372036854775808 ≤ f.len ∧ f.len ≤ 9223372036854775807) ∧ (-9223372036854775808 ≤ f.order ∧ f.order ≤ 9223372036854775807) ∧ ∀ x ∈ f.co, -9223372036854775808 ≤ x ∧ x ≤ 9223372036854775807
end Go.Proofs.Ytmkgfgdipkagbaa

