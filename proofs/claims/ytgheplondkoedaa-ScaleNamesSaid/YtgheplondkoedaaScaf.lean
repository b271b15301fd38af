import Derived.Test.YtgheplondkoedaaWf
import Derived.Test.YtgheplondkoedaaTyh
import Derived.Test.YtgheplondkoedaaSca
namespace Go.Proofs.Ytgheplondkoedaa
set_option linter.unusedVariables false
set_option linter.unusedSimpArgs false
set_option maxRecDepth 10000
open Go Go.Pv


def ScOk (f : Sc) : Prop := (-9223372036854775808 ≤ f.book ∧ f.book ≤ 9223372036854775807) ∧ -9223372036854775808 ≤ f.len ∧ f.len ≤ 9223372036854775807
end Go.Proofs.Ytgheplondkoedaa

