import Derived.Test.YtmkgfgdipkagbaaWf
import Derived.Test.YtmkgfgdipkagbaaTyl
import Derived.Test.YtmkgfgdipkagbaaLband
import Derived.Test.YtmkgfgdipkagbaaLinfo
import Derived.Test.YtmkgfgdipkagbaaLinfo2
import Derived.Test.YtmkgfgdipkagbaaLbits
import Derived.Test.YtmkgfgdipkagbaaLtns
import Derived.Test.YtmkgfgdipkagbaaLtnp
import Derived.Test.YtmkgfgdipkagbaaLtnl
namespace Go.Proofs.Ytmkgfgdipkagbaa
set_option linter.unusedVariables false
set_option linter.unusedSimpArgs false
set_option maxRecDepth 10000
open Go Go.Pv


open Go.RowKit
theorem sc_at {ws : List Sc} {k : Nat} (h : k < ws.length) : (Option.map Sc.row ws[k]?).getD [] = [.int .i64 (ws[k]?.getD default).book, .int .i64 (ws[k]?.getD default).len] := by
 rw [List.getElem?_eq_getElem h]; rfl
/-- The book of a band, of a group's sections. -/
def bkL : List Sc → Int → Int × Int
 | [], _ => (0, 2)
 | x :: r, b => if x.len < 1 then bkL r b else if b < x.len then (x.book, 0) else bkL r (b - x.len)
def bkG (se : List (List Sc)) (g b : Int) : Int × Int := if g < 0 ∨ (se.length : Int) ≤ g ∨ b < 0 then (0, 2) else bkL (se[g.toNat]?.getD []) b
def badS (x : Sc) : Bool := decide (x.len < 1) || (decide (40 < x.len) || (decide (x.book < 0) || (decide (11 < x.book) && !decide (x.book = 13))))
def lenS (l : List Sc) (k : Nat) : Int := ((l.take k).map Sc.len).sum
def secL (m : Int) (l : List Sc) : Bool := !(l.any badS) && (decide (lenS l l.length = m) && decide (l.length ≤ 40))
def secB (m : Int) (g : List Int) (se : List (List Sc)) : Bool := decide (se.length = g.length) && se.all (secL m)
def nearB (was now : Int) : Bool := decide (was - 60 ≤ now) && decide (now ≤ was + 60)
structure Zs where
 last : Int
 noise : Int
 on : Bool
def stp1 (book n : Int) (z : Zs) : Option Zs :=
 if book = 0 ∧ ¬ n = 0 then none
 else if book = 13 then (if n < 0 ∨ 511 < n ∨ (z.on = true ∧ nearB z.noise n = false) then none else some ⟨z.last, n, true⟩)
 else if 0 < book then (if n < 0 ∨ 255 < n ∨ nearB z.last n = false then none else some ⟨n, z.noise, z.on⟩)
 else some z
def rowZ (se : List (List Sc)) (g : Int) : List Int → Int → Zs → Option Zs
 | [], _, z => some z
 | n :: r, b, z => (stp1 (bkG se g b).1 n z).bind (rowZ se g r (b + 1))
def allZ (se : List (List Sc)) (m : Int) : List (List Int) → Int → Zs → Option Zs
 | [], _, z => some z
 | row :: r, g, z => if (row.length : Int) = m then (rowZ se g row 0 z).bind (allZ se m r (g + 1)) else none
def stpB (ga m : Int) (g : List Int) (se : List (List Sc)) (st : List (List Int)) : Bool := decide (st.length = g.length) && (allZ se m st 0 ⟨ga, 0, false⟩).isSome
def nxZ (book n : Int) (z : Zs) : Zs := if book = 13 then ⟨z.last, n, true⟩ else if 0 < book then ⟨n, z.noise, z.on⟩ else z
def ZOk (z : Zs) : Prop := (0 ≤ z.last ∧ z.last ≤ 255) ∧ 0 ≤ z.noise ∧ z.noise ≤ 511
end Go.Proofs.Ytmkgfgdipkagbaa

