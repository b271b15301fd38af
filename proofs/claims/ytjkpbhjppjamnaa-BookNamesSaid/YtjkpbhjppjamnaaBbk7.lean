import Derived.Test.YtjkpbhjppjamnaaWb
import Derived.Test.YtjkpbhjppjamnaaTyb
import Derived.Test.YtjkpbhjppjamnaaBkq
import Derived.Test.YtjkpbhjppjamnaaBsrt
import Derived.Test.YtjkpbhjppjamnaaBbk
import Derived.Test.YtjkpbhjppjamnaaBbk2
import Derived.Test.YtjkpbhjppjamnaaBbk3
import Derived.Test.YtjkpbhjppjamnaaBbits
import Derived.Test.YtjkpbhjppjamnaaBrd
import Derived.Test.YtjkpbhjppjamnaaBrdq
import Derived.Test.YtjkpbhjppjamnaaBbits2
import Derived.Test.YtjkpbhjppjamnaaBbk4
import Derived.Test.YtjkpbhjppjamnaaBbk5
import Derived.Test.YtjkpbhjppjamnaaBbk6
namespace Go.Proofs.Ytjkpbhjppjamnaa
set_option linter.unusedVariables false
set_option linter.unusedSimpArgs false
set_option maxRecDepth 10000
open Go Go.Pv

end Go.Proofs.Ytjkpbhjppjamnaa

