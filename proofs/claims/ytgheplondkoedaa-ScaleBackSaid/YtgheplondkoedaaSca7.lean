import Derived.Test.YtgheplondkoedaaWf
import Derived.Test.YtgheplondkoedaaTyh
import Derived.Test.YtgheplondkoedaaHbits
import Derived.Test.YtgheplondkoedaaHbits2
import Derived.Test.YtgheplondkoedaaHsrt
import Derived.Test.YtgheplondkoedaaHbk
import Derived.Test.YtgheplondkoedaaHst
import Derived.Test.YtgheplondkoedaaHbk5
import Derived.Test.YtgheplondkoedaaHbk9
import Derived.Test.YtgheplondkoedaaSca
import Derived.Test.YtgheplondkoedaaSca2
import Derived.Test.YtgheplondkoedaaSca3
import Derived.Test.YtgheplondkoedaaSca4
import Derived.Test.YtgheplondkoedaaSca5
import Derived.Test.YtgheplondkoedaaSca6
namespace Go.Proofs.Ytgheplondkoedaa
set_option linter.unusedVariables false
set_option linter.unusedSimpArgs false
set_option maxRecDepth 10000
open Go Go.Pv

open Go.RowKit
theorem getP_0 {b : List Int} {p : Int} (h : getE b p 0 = 0) : getP b p 0 = p := by unfold getP; rw [if_pos h]; omega
theorem rwS_succ {b bs : List Int} {p : Int} {a : Int × Int} {k : Nat} {bk : Int} (h : bs[k]?.getD 0 = bk) : rwS b bs p a (k + 1) = ⟨(rwS b bs p a k).vs ++ [r1N b (rwS b bs p a k).a bk (rwS b bs p a k).p], r1P b (rwS b bs p a k).a bk (rwS b bs p a k).p, bdN (rwS b bs p a k).a bk (r1N b (rwS b bs p a k).a bk (rwS b bs p a k).p)⟩ := by rw [rwS, h]
theorem rwV_succ {b bs : List Int} {p : Int} {a : Int × Int} {k : Nat} {bk : Int} (h : bs[k]?.getD 0 = bk) : (rwS b bs p a (k + 1)).vs = (rwS b bs p a k).vs ++ [r1N b (rwS b bs p a k).a bk (rwS b bs p a k).p] := by rw [rwS_succ h]
theorem rwP_succ {b bs : List Int} {p : Int} {a : Int × Int} {k : Nat} {bk : Int} (h : bs[k]?.getD 0 = bk) : (rwS b bs p a (k + 1)).p = r1P b (rwS b bs p a k).a bk (rwS b bs p a k).p := by rw [rwS_succ h]
theorem rwA_succ {b bs : List Int} {p : Int} {a : Int × Int} {k : Nat} {bk : Int} (h : bs[k]?.getD 0 = bk) : (rwS b bs p a (k + 1)).a = bdN (rwS b bs p a k).a bk (r1N b (rwS b bs p a k).a bk (rwS b bs p a k).p) := by rw [rwS_succ h]

end Go.Proofs.Ytgheplondkoedaa

