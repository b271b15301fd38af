import Derived.Test.YtmkgfgdipkagbaaWf
import Derived.Test.YtmkgfgdipkagbaaTyl
import Derived.Test.YtmkgfgdipkagbaaBitt
namespace Go.Proofs.Ytmkgfgdipkagbaa
set_option linter.unusedVariables false
set_option linter.unusedSimpArgs false
set_option maxRecDepth 10000
open Go Go.Pv

open Go.RowKit
end Go.Proofs.Ytmkgfgdipkagbaa

