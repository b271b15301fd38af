import Derived.Test.YtgheplondkoedaaWf
import Derived.Test.YtgheplondkoedaaTyh
import Derived.Test.YtgheplondkoedaaBsp
namespace Go.Proofs.Ytgheplondkoedaa
set_option linter.unusedVariables false
set_option linter.unusedSimpArgs false
set_option maxRecDepth 10000
open Go Go.Pv

theorem mixed : Try.prog.follows .mixedOrders = true := by kernel_rfl
structure Cm (fz : Int → Int) (zs : List Int) : Prop where
 pur : (Cells.rows 289 [zs.map (PV.int .u8)]).pur = true
 call : ∀ x y : Int, 0 ≤ x ∧ x < 289 → 0 ≤ y ∧ y < 289 → PCall Try.prog 73 [.int .i64 x, .int .i64 y, .rop (.rows 289 [zs.map (PV.int .u8)]) 0 0] (.int .i64 (cmI fz x y))

end Go.Proofs.Ytgheplondkoedaa

