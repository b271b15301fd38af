import Derived.Test.YtmkgfgdipkagbaaWf
import Derived.Test.YtmkgfgdipkagbaaTyl
import Derived.Test.YtmkgfgdipkagbaaLband
import Derived.Test.YtmkgfgdipkagbaaLinfo
import Derived.Test.YtmkgfgdipkagbaaLinfo2
namespace Go.Proofs.Ytmkgfgdipkagbaa
set_option linter.unusedVariables false
set_option linter.unusedSimpArgs false
set_option maxRecDepth 10000
open Go Go.Pv


open Go.RowKit
/-- A filter. -/
structure Fl where
  len : Int
  order : Int
  down : Bool
  fine : Bool
  co : List Int
instance : Inhabited Fl := ⟨⟨0, 0, false, false, []⟩⟩
def Fl.row (f : Fl) : List PV := [.int .i64 f.len, .int .i64 f.order, .bool f.down, .bool f.fine, .ro (.ints .i64 f.co)]
def wP (w : List Fl) : PV := .ro (.rows 5 (w.map Fl.row))
def lP (l : List (List Fl)) : PV := .ro (.rows 1 (l.map fun w => [wP w]))
theorem row_at {ws : List Fl} {k : Nat} (h : k < ws.length) : (Option.map Fl.row ws[k]?).getD [] = [.int .i64 (ws[k]?.getD default).len, .int .i64 (ws[k]?.getD default).order, .bool (ws[k]?.getD default).down, .bool (ws[k]?.getD default).fine, .ro (.ints .i64 (ws[k]?.getD default).co)] := by
  rw [List.getElem?_eq_getElem h]; rfl
theorem w_at {l : List (List Fl)} {k : Nat} (h : k < l.length) : (Option.map (fun w => [PV.ro (.rows 5 (w.map Fl.row))]) l[k]?).getD [] = [.ro (.rows 5 ((l[k]?.getD []).map Fl.row))] := by
  rw [List.getElem?_eq_getElem h]; rfl
/-- The first place of one that is so; -1: none is. -/
def idxF {α : Type} (p : α → Bool) (xs : List α) : Int := if xs.any p then (xs.findIdx p : Nat) else -1
def hF (size : Int) : Int := 2 ^ (size - 1).toNat
def outF (size n : Int) : Bool := decide (n < -hF size) || decide (hF size ≤ n)
def fitB (l : List Int) (size : Int) : Bool := !l.any (outF size)
def sz0 (s : Int) : Int := if s = 2 then 1 else 2
def sz1 (s : Int) : Int := if s = 2 then 4 else 6
def sz2 (s : Int) : Int := if s = 2 then 3 else 5
def sz3 (s : Int) : Int := if s = 2 then 1 else 3
def sz4 (s : Int) : Int := if s = 2 then 7 else 12
def szP (s : Int) : List PV := [.int .i64 (sz0 s), .int .i64 (sz1 s), .int .i64 (sz2 s), .int .i64 (sz3 s), .int .i64 (sz4 s)]
def widB (b : Bool) : Int := if b then 4 else 3
def bitB (b : Bool) : Int := if b then 1 else 0
def top1 (s : Int) : Int := if s = 2 then 16 else 64
def rightB (s : Int) (f : Fl) : Bool := decide (0 ≤ f.len) && (decide (f.len < top1 s) && (decide (0 ≤ f.order) && (decide (f.order ≤ sz4 s) && (decide ((f.co.length : Int) = f.order) && ((decide (0 < f.order) || !f.down) && fitB f.co (widB f.fine))))))
def badF (s : Int) (w : List Fl) (f : Fl) : Bool := !rightB s f || !(f.fine == (w[0]?.getD default).fine)
def badW (s : Int) (w : List Fl) : Bool := decide (sz3 s < (w.length : Int)) || w.any (badF s w)
def chT (s sh m : Int) (g : List Int) (l : List (List Fl)) : Int := if winE s sh m g = 0 then (if (l.length : Int) = winI s sh m g then (if l.any (badW s) then 8 else 0) else 8) else winE s sh m g
end Go.Proofs.Ytmkgfgdipkagbaa

