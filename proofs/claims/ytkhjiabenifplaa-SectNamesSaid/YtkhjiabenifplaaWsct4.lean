import Derived.Test.YtkhjiabenifplaaWf
import Derived.Test.YtkhjiabenifplaaTyi
import Derived.Test.YtkhjiabenifplaaWband
import Derived.Test.YtkhjiabenifplaaWinfo
import Derived.Test.YtkhjiabenifplaaWbits
import Derived.Test.YtkhjiabenifplaaWrd
import Derived.Test.YtkhjiabenifplaaWrdq
import Derived.Test.YtkhjiabenifplaaWsct
import Derived.Test.YtkhjiabenifplaaWsct2
import Derived.Test.YtkhjiabenifplaaWsct3
import Derived.Test.YtkhjiabenifplaaWbits2
namespace Go.Proofs.Ytkhjiabenifplaa
set_option linter.unusedVariables false
set_option linter.unusedSimpArgs false
set_option maxRecDepth 10000
open Go Go.Pv

open Go.RowKit
def grt19 (l : List (List Sc)) : Bool := (l.take 100).any (fun w => decide (200 < w.length)) || decide (100 < l.length)
end Go.Proofs.Ytkhjiabenifplaa

