import Derived.Test.YtgheplondkoedaaWf
import Derived.Test.YtgheplondkoedaaTyh
import Derived.Test.YtgheplondkoedaaBkq
import Derived.Test.YtgheplondkoedaaHsrt
import Derived.Test.YtgheplondkoedaaHbk
import Derived.Test.YtgheplondkoedaaHbk2
import Derived.Test.YtgheplondkoedaaHbk3
import Derived.Test.YtgheplondkoedaaHbits
import Derived.Test.YtgheplondkoedaaHrd
import Derived.Test.YtgheplondkoedaaHrdq
import Derived.Test.YtgheplondkoedaaHbits2
import Derived.Test.YtgheplondkoedaaHbk4
import Derived.Test.YtgheplondkoedaaHbk5
import Derived.Test.YtgheplondkoedaaHbk6
import Derived.Test.YtgheplondkoedaaHbk8
import Derived.Test.YtgheplondkoedaaHbk9
import Derived.Test.YtgheplondkoedaaHgrow
import Derived.Test.YtgheplondkoedaaHst
import Derived.Test.YtgheplondkoedaaHrep
import Derived.Test.YtgheplondkoedaaHputh
import Derived.Test.YtgheplondkoedaaHft
import Derived.Test.YtgheplondkoedaaHpt
import Derived.Test.YtgheplondkoedaaHsg
import Derived.Test.YtgheplondkoedaaHgh
import Derived.Test.YtgheplondkoedaaHgb
import Derived.Test.YtgheplondkoedaaHgt
namespace Go.Proofs.Ytgheplondkoedaa
set_option linter.unusedVariables false
set_option linter.unusedSimpArgs false
set_option maxRecDepth 10000
open Go Go.Pv

open Go.RowKit
def reV (b : List Int) (p : Int) : Int := if (eS b (p, 0)).2 = 0 then eV b (p, 0) else 0
def reP (b : List Int) (p : Int) : Int := if (eF b (p, 0)).2 = 0 then (eF b (p, 0)).1 else 0
theorem huffL_len {i : Nat} (h1 : 1 ≤ i) (h2 : i ≤ 11) {vs : List Int} (hd : vs.length = bDim i) (hf : hFit i vs = true) : (huffL i vs).length ≤ 300 := by
  have hF := (hkF h1 h2).d
  have hvl : vs.length ≤ 4 := by rw [hd, hF]; split <;> omega
  unfold huffL
  cases hs : hSig i with
  | true =>
    rw [if_pos rfl]
    have := code_len h1 (by omega : i ≤ 12) (sig_ent h1 h2 hd hf hs).2.2
    omega
  | false =>
    rw [if_neg (by simp)]
    have := code_len h1 (by omega : i ≤ 12) (told_ent h1 h2 hd hf hs).2.2
    have := sg_len vs
    have := es_len (i := i) (vs := vs) (fun w hw => ⟨(fit_bd h1 h2 hf hw).2.2.1, (fit_bd h1 h2 hf hw).2.2.2⟩)
    simp only [List.length_append]
    omega

end Go.Proofs.Ytgheplondkoedaa

