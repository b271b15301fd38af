import Derived.Test.YtmkgfgdipkagbaaWf
import Derived.Test.YtmkgfgdipkagbaaTyl
import Derived.Test.YtmkgfgdipkagbaaLband
import Derived.Test.YtmkgfgdipkagbaaLinfo
import Derived.Test.YtmkgfgdipkagbaaLinfo2
import Derived.Test.YtmkgfgdipkagbaaLbits
import Derived.Test.YtmkgfgdipkagbaaLtns
import Derived.Test.YtmkgfgdipkagbaaLtnp
import Derived.Test.YtmkgfgdipkagbaaLtnl
import Derived.Test.YtmkgfgdipkagbaaLlan
import Derived.Test.YtmkgfgdipkagbaaLlan2
import Derived.Test.YtmkgfgdipkagbaaLlan3
import Derived.Test.YtmkgfgdipkagbaaLlan4
namespace Go.Proofs.Ytmkgfgdipkagbaa
set_option linter.unusedVariables false
set_option linter.unusedSimpArgs false
set_option maxRecDepth 10000
open Go Go.Pv


open Go.RowKit
structure Good (s sh m : Int) (g : List Int) (se : List (List Sc)) (st : List (List Int)) : Prop where
  gl : 1 ≤ g.length
  sl : se.length = g.length
  tl : st.length = g.length
  mb : 0 ≤ m ∧ m ≤ 49
  wl : ∀ w ∈ se, w.length ≤ 40
  row : ∀ i, i < st.length → ((st[i]?.getD []).length : Int) = m
  bk : ∀ a b : Int, 0 ≤ a ∧ a < se.length → 0 ≤ b → (if b < m then (bkG se a b).2 = 0 ∧ 0 ≤ (bkG se a b).1 ∧ ((bkG se a b).1 ≤ 11 ∨ (bkG se a b).1 = 13) else bkG se a b = (0, 2))
  nul : ∀ i j : Nat, i < st.length → (j : Int) < m → (bkG se i j).1 = 0 → (st[i]?.getD [])[j]?.getD 0 = 0
  sum : ∀ w ∈ se, lenS w w.length = m
  pos : ∀ w ∈ se, ∀ x ∈ w, badS x = false
end Go.Proofs.Ytmkgfgdipkagbaa

