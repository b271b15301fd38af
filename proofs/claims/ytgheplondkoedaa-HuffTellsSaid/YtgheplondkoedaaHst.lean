import Derived.Test.YtgheplondkoedaaWf
import Derived.Test.YtgheplondkoedaaTyh
import Derived.Test.YtgheplondkoedaaBkq
import Derived.Test.YtgheplondkoedaaHsrt
import Derived.Test.YtgheplondkoedaaHbk
import Derived.Test.YtgheplondkoedaaHbk2
import Derived.Test.YtgheplondkoedaaHbk3
import Derived.Test.YtgheplondkoedaaHbits
import Derived.Test.YtgheplondkoedaaHrd
import Derived.Test.YtgheplondkoedaaHrdq
import Derived.Test.YtgheplondkoedaaHbits2
import Derived.Test.YtgheplondkoedaaHbk4
import Derived.Test.YtgheplondkoedaaHbk5
import Derived.Test.YtgheplondkoedaaHbk6
import Derived.Test.YtgheplondkoedaaHbk8
import Derived.Test.YtgheplondkoedaaHbk9
import Derived.Test.YtgheplondkoedaaHgrow
namespace Go.Proofs.Ytgheplondkoedaa
set_option linter.unusedVariables false
set_option linter.unusedSimpArgs false
set_option maxRecDepth 10000
open Go Go.Pv

open Go.RowKit
def rkS (d : Int) : Nat := (bRk 12)[(d + 60).toNat]?.getD 0
/-- The code of a step. -/
def stepL (d : Int) : List Int := codeL 0 (rkS d)
def St60 (d : Int) : Prop := -60 ≤ d ∧ d ≤ 60
structure StepF (d : Int) : Prop where
 e : entE 12 [d] = 0
 v : entV 12 [d] = ((d + 60).toNat : Nat)
 m : (d + 60).toNat < bMany 12
 r : rkS d < 121
 neg : d < 0 → (rkS d : Int) = -2 * d - 1
 zer : d = 0 → rkS d = 0
 pos : 0 < d → (rkS d : Int) = 2 * d
 back : bVal 12 (d + 60).toNat = [d]
/-- The step of some bits. -/
def stE (b : List Int) (at_ : Int) : Int := fdE 0 121 b at_
def stV (b : List Int) (at_ : Int) : Int := if stE b at_ = 0 then fdN 0 (bE 12) b at_ - 60 else 0
def stP (b : List Int) (at_ : Int) : Int := fdP 0 (bE 12) b at_
def en12 : Nat → List Int
 | 0 => [60]
 | n + 1 => en12 n ++ [((59 - n : Nat) : Int), ((61 + n : Nat) : Int)]
def rk12 : Nat → List Int
 | 0 => List.replicate 121 0
 | n + 1 => ((rk12 n).set (59 - n) (2 * n + 1 : Nat)).set (61 + n) (2 * n + 2 : Nat)
theorem bk12 : bookV 12 = .agg [.int .i64 12, .int .i64 0, .ro (.ints .i64 (bE 12)), .ro (.ints .i64 (bR 12))] := rfl

theorem cc_step (b c : List Int) (hc : 1 ≤ c.length ∧ c.length ≤ 1000000) (hb : b.length ≤ 1000000) : PCall Try.prog 46 [.ro (.rows 1 [[.ro (.ints .u8 b)], [.ro (.ints .u8 c)]])] (.ro (.ints .u8 (b ++ c))) := by
 have := concat_ok [b, c] (by simp [cat]; omega) (by simp)
 have e : cat [b, c] = b ++ c := by simp [cat]
 rw [e] at this
 exact this
end Go.Proofs.Ytgheplondkoedaa

