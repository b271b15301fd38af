import Derived.Test.YtgheplondkoedaaWf
import Derived.Test.YtgheplondkoedaaTyh
import Derived.Test.YtgheplondkoedaaHbits
import Derived.Test.YtgheplondkoedaaHbits2
import Derived.Test.YtgheplondkoedaaHsrt
import Derived.Test.YtgheplondkoedaaHbk
import Derived.Test.YtgheplondkoedaaHst
import Derived.Test.YtgheplondkoedaaHbk5
import Derived.Test.YtgheplondkoedaaHbk9
import Derived.Test.YtgheplondkoedaaSca
import Derived.Test.YtgheplondkoedaaSca2
import Derived.Test.YtgheplondkoedaaSca3
import Derived.Test.YtgheplondkoedaaSca4
import Derived.Test.YtgheplondkoedaaSca5
namespace Go.Proofs.Ytgheplondkoedaa
set_option linter.unusedVariables false
set_option linter.unusedSimpArgs false
set_option maxRecDepth 10000
open Go Go.Pv

open Go.RowKit
def o1N (b : List Int) (a : Int × Int) (bk p : Int) : Int := if r1E b a bk p = 0 then r1N b a bk p else 0
def o1P (b : List Int) (a : Int × Int) (bk p : Int) : Int := if r1E b a bk p = 0 then r1P b a bk p else 0
theorem st60 {b : List Int} {p : Int} (hb : ∀ k : Nat, 0 ≤ b[k]?.getD 0 ∧ b[k]?.getD 0 ≤ 255) : -60 ≤ stV b p ∧ stV b p ≤ 60 := by
 by_cases h : stE b p = 0
 ·have := (step_got hb h).1
  unfold St60 at this
  exact this
 ·rw [(st_err h).2.2.1]
  omega
theorem stP_bd {b : List Int} {p : Int} (hb : ∀ k : Nat, 0 ≤ b[k]?.getD 0 ∧ b[k]?.getD 0 ≤ 255) (hl : b.length ≤ 1000000) : 0 ≤ stP b p ∧ stP b p ≤ 1000000 := by
 by_cases h : stE b p = 0
 ·obtain ⟨_, n, h1, h2, h3, _⟩ := step_got hb h
  omega
 ·rw [(st_err h).2.2.2]
  omega
theorem getP_in {b : List Int} {p z : Int} (hb : b.length ≤ 1000000) : 0 ≤ getP b p z ∧ getP b p z ≤ 1000000 := by
 unfold getP
 split
 ·rename_i h
  obtain ⟨h1, h2, h3, h4⟩ := getE_zero h
  omega
 ·omega
theorem r1P_bd {b : List Int} {a : Int × Int} {bk p : Int} (hb : ∀ k : Nat, 0 ≤ b[k]?.getD 0 ∧ b[k]?.getD 0 ≤ 255) (hl : b.length ≤ 1000000) (hp : 0 ≤ p ∧ p ≤ 1000000) : 0 ≤ r1P b a bk p ∧ r1P b a bk p ≤ 1000000 := by
 unfold r1P
 split
 ·exact hp
 ·split
  ·exact getP_in hl
  ·exact stP_bd hb hl
theorem rwP_bd {b bs : List Int} {a : Int × Int} {p : Int} (hb : ∀ k : Nat, 0 ≤ b[k]?.getD 0 ∧ b[k]?.getD 0 ≤ 255) (hl : b.length ≤ 1000000) (hp : 0 ≤ p ∧ p ≤ 1000000) : ∀ k, 0 ≤ (rwS b bs p a k).p ∧ (rwS b bs p a k).p ≤ 1000000
 | 0 => hp
 | k + 1 => by rw [rwS]; exact r1P_bd hb hl (rwP_bd hb hl hp k)
theorem rwA_ok {b bs : List Int} {a : Int × Int} {p : Int} (hb : ∀ y ∈ b, 0 ≤ y ∧ y ≤ 255) (hp : 0 ≤ p ∧ p ≤ b.length) (ha : AOk a) {k : Nat} (h : rwE b bs p a k = 0) : AOk (rwS b bs p a k).a := by
 obtain ⟨h1, h2, _⟩ := rw_ok hb hp k h
 rw [h2]
 exact aN_ok ha k h1
theorem gA_ok {b : List Int} {l : List (List Sc)} {ga p : Int} (hb : ∀ y ∈ b, 0 ≤ y ∧ y ≤ 255) (hp : 0 ≤ p ∧ p ≤ b.length) (hg : 0 ≤ ga ∧ ga ≤ 255) {k : Nat} (h : gE b l ga p k = 0) : AOk (gS b l ga p k).a ∧ 0 ≤ (gS b l ga p k).p ∧ (gS b l ga p k).p ≤ b.length := by
 obtain ⟨h1, h2, h3⟩ := g_ok hb hp k h
 rw [h2]
 exact ⟨gN_ok hg k h1, by have := h3.1; have := h3.2.1; omega, h3.2.2.1⟩
def grt20 (l : List (List Int)) : Bool := (l.take 100).any (fun w => decide (500 < w.length)) || decide (100 < l.length)
def grt19 (l : List (List Sc)) : Bool := (l.take 100).any (fun w => decide (200 < w.length)) || decide (100 < l.length)
def grt20x (l : List (List Int)) : Bool := (l.take 100).any (fun w => decide (500 < w.length)) || decide (100 < l.length)
end Go.Proofs.Ytgheplondkoedaa

