import Derived.Test.YtmkgfgdipkagbaaWf
import Derived.Test.YtmkgfgdipkagbaaTyl
import Derived.Test.YtmkgfgdipkagbaaLband
namespace Go.Proofs.Ytmkgfgdipkagbaa
set_option linter.unusedVariables false
set_option linter.unusedSimpArgs false
set_option maxRecDepth 10000
open Go Go.Pv


def okG (s : Int) (g : List Int) : Bool := if s = 2 then decide ((∀ x ∈ g, 1 ≤ x) ∧ g.sum = 8) else decide (g = [1])
def mayI (rate s sh m : Int) (g : List Int) : Bool := decide (s ≤ 3 ∧ sh ≤ 1 ∧ 0 ≤ m ∧ m ≤ MB rate (decide (s = 2))) && okG s g
def chI (rate s sh m : Int) (g : List Int) : Int := if rate < 0 ∨ 11 < rate then 2 else if mayI rate s sh m g then 0 else 8
def winI (s sh m : Int) (g : List Int) : Int := if mayI 11 s sh m g then (if s = 2 then 8 else 1) else 0
def winE (s sh m : Int) (g : List Int) : Int := if mayI 11 s sh m g then 0 else 8
/-- Which group a window is in. -/
def grp : List Int → Int → Nat
 | [], _ => 0
 | x :: r, w => if x ≤ w then grp r (w - x) + 1 else 0
def inL : Nat → List Int → List Int
 | _, [] => []
 | k, x :: r => List.replicate x.toNat (k : Int) ++ inL (k + 1) r
theorem inL_get : ∀ (g : List Int) (k : Nat) (w : Int), (∀ x ∈ g, 1 ≤ x) → 0 ≤ w → w < g.sum → (inL k g)[w.toNat]?.getD 0 = ((k + grp g w : Nat) : Int)
 | [], k, w, _, h0, h1 => by simp at h1; omega
 | x :: g, k, w, h, h0, h1 => by
  have hx := h x (by simp)
  rw [List.sum_cons] at h1
  simp only [inL, grp]
  by_cases hw : x ≤ w
  ·rw [if_pos hw, List.getElem?_append_right (by simp; omega), List.length_replicate, show w.toNat - x.toNat = (w - x).toNat by omega, inL_get g (k + 1) (w - x) (fun y hy => h y (by simp [hy])) (by omega) (by omega)]
   congr 1
   omega
  ·rw [if_neg hw, List.getElem?_append_left (by simp; omega), List.getElem?_replicate, if_pos (by omega)]
   rfl
def grpE (s sh m : Int) (g : List Int) (w : Int) : Int := if mayI 11 s sh m g then (if w < 0 ∨ winI s sh m g ≤ w then 2 else 0) else 8
def grpN (s sh m : Int) (g : List Int) (w : Int) : Int := if grpE s sh m g w = 0 then (grp g w : Nat) else 0
def aft (was now : Int) : Bool := decide (((was = 0 ∨ was = 3) ∧ (now = 0 ∨ now = 1)) ∨ ((was = 1 ∨ was = 2) ∧ (now = 2 ∨ now = 3)))
def maN (s : Int) : Int := if s = 2 then 8 else 1

end Go.Proofs.Ytmkgfgdipkagbaa

