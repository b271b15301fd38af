import Derived.Test.YtmkgfgdipkagbaaWb
import Derived.Test.YtmkgfgdipkagbaaTyl
import Derived.Test.YtmkgfgdipkagbaaLband
import Derived.Test.YtmkgfgdipkagbaaLinfo
import Derived.Test.YtmkgfgdipkagbaaLinfo2
import Derived.Test.YtmkgfgdipkagbaaLbits
import Derived.Test.YtmkgfgdipkagbaaLtns
import Derived.Test.YtmkgfgdipkagbaaLtnp
namespace Go.Proofs.Ytmkgfgdipkagbaa
set_option linter.unusedVariables false
set_option linter.unusedSimpArgs false
set_option maxRecDepth 10000
open Go Go.Pv


open Go.RowKit
structure Sc where
  book : Int
  len : Int
instance : Inhabited Sc := ⟨⟨0, 0⟩⟩
def Sc.row (x : Sc) : List PV := [.int .i64 x.book, .int .i64 x.len]
theorem s_at {l : List (List Sc)} {k : Nat} (h : k < l.length) : (Option.map (fun w => [PV.ro (.rows 2 (w.map Sc.row))]) l[k]?).getD [] = [.ro (.rows 2 ((l[k]?.getD []).map Sc.row))] := by
  rw [List.getElem?_eq_getElem h]; rfl
theorem i_at {l : List (List Int)} {k : Nat} (h : k < l.length) : (Option.map (fun w => [PV.ro (.ints .i64 w)]) l[k]?).getD [] = [.ro (.ints .i64 (l[k]?.getD []))] := by
  rw [List.getElem?_eq_getElem h]; rfl
def grF (w : List Fl) : Bool := decide (20 < w.length) || w.any fun f => decide (100 < f.co.length)
def grC (g : List Int) (se : List (List Sc)) (st : List (List Int)) (tn : List (List Fl)) (ln : List Int) : Bool :=
  (decide (40 < g.length) || (decide (40 < se.length) || (decide (40 < st.length) || (decide (40 < tn.length) || decide (2000 < ln.length))))) || (se.any (fun x => decide (100 < x.length)) || (st.any (fun x => decide (200 < x.length)) || tn.any grF))
theorem any_no {α : Type} [Inhabited α] {p : α → Bool} {xs : List α} {k : Nat} (hk : xs.length ≤ k) (h : ∀ j < k, p (xs[j]?.getD default) = false) : xs.any p = false := by
  rw [List.any_eq_false]
  intro x hx
  obtain ⟨j, hj, rfl⟩ := List.getElem_of_mem hx
  have := h j (by omega)
  rw [List.getElem?_eq_getElem hj, Option.getD_some] at this
  rw [this]
  simp
theorem any_at {α : Type} [Inhabited α] {p : α → Bool} {xs : List α} {k : Nat} (hk : k < xs.length) (h : p (xs[k]?.getD default) = true) : xs.any p = true := List.any_eq_true.2 ⟨_, mem_at hk, h⟩
def cntL (l : List (List Fl)) (k : Nat) : Nat := ((l.take k).map List.length).sum
def loF (f : Fl) : Fl := { f with co := List.replicate f.order.toNat 0 }
def hiF (f : Fl) (a : Int) : Fl := { f with co := (List.replicate f.order.toNat 0).set (a.tmod f.order).toNat (if f.fine then 7 else 3) }
end Go.Proofs.Ytmkgfgdipkagbaa

