import Derived.Test.YtjkpbhjppjamnaaWb
import Derived.Test.YtjkpbhjppjamnaaTyb
import Derived.Test.YtjkpbhjppjamnaaBkq
import Derived.Test.YtjkpbhjppjamnaaBsrt
import Derived.Test.YtjkpbhjppjamnaaBbk
namespace Go.Proofs.Ytjkpbhjppjamnaa
set_option linter.unusedVariables false
set_option linter.unusedSimpArgs false
set_option maxRecDepth 10000
open Go Go.Pv

def bookV (i : Nat) : PV := .agg [.int .i64 (i : Nat), .int .i64 (bPlain i : Nat), .ro (.ints .i64 (bE i)), .ro (.ints .i64 (bR i))]

end Go.Proofs.Ytjkpbhjppjamnaa

