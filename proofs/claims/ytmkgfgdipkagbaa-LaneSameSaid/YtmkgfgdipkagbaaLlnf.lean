import Derived.Test.YtmkgfgdipkagbaaWf
import Derived.Test.YtmkgfgdipkagbaaTyl
import Derived.Test.YtmkgfgdipkagbaaLtnl
import Derived.Test.YtmkgfgdipkagbaaLtnf
namespace Go.Proofs.Ytmkgfgdipkagbaa
set_option linter.unusedVariables false
set_option linter.unusedSimpArgs false
set_option maxRecDepth 10000
open Go Go.Pv


open Go.RowKit
def ScOk (f : Sc) : Prop := (-9223372036854775808 ≤ f.book ∧ f.book ≤ 9223372036854775807) ∧ -9223372036854775808 ≤ f.len ∧ f.len ≤ 9223372036854775807
theorem sh_sc {n : Nat} {ps : List PV} (h : ShC ty (n + 2) 38 ps) : ∃ f : Sc, ps = f.row ∧ ScOk f := by
  obtain ⟨a, b, rfl, h1, c, d, rfl, h2, h6⟩ := (show ShF (ShC ty (n + 1)) [(3, 0), (3, 1)] ps from h)
  have h6 : d = [] := h6
  subst h6
  obtain ⟨x, rfl, b1⟩ := sh_i64 h1
  obtain ⟨y, rfl, b2⟩ := sh_i64 h2
  exact ⟨⟨x, y⟩, rfl, b1, b2⟩
theorem sh_ws {n : Nat} {ps : List PV} (h : ShC ty (n + 3) 36 ps) : ∃ w : List Sc, ps = [.ro (.rows 2 (w.map Sc.row))] ∧ ∀ f ∈ w, ScOk f := by
  obtain ⟨cs, rfl, h1, rs, rfl, h2⟩ := (show ∃ cs, ps = [.ro cs] ∧ cs.len ≤ maxLen ∧ ∃ rs, cs = .rows 2 rs ∧ ∀ r ∈ rs, ShC ty (n + 2) 38 r from h)
  obtain ⟨w, rfl, hw⟩ := rows_map Sc.row ScOk _ (fun r h => sh_sc h) rs h2
  exact ⟨w, rfl, hw⟩
theorem sh_se {n : Nat} {ps : List PV} (h : ShC ty (n + 4) 25 ps) : ∃ l : List (List Sc), ps = [.ro (.rows 1 (l.map fun w => [.ro (.rows 2 (w.map Sc.row))]))] ∧ ∀ w ∈ l, ∀ f ∈ w, ScOk f := by
  obtain ⟨cs, rfl, h1, rs, rfl, h2⟩ := (show ∃ cs, ps = [.ro cs] ∧ cs.len ≤ maxLen ∧ ∃ rs, cs = .rows 1 rs ∧ ∀ r ∈ rs, ShC ty (n + 3) 36 r from h)
  obtain ⟨l, rfl, hl⟩ := rows_map (fun w : List Sc => [PV.ro (.rows 2 (w.map Sc.row))]) (fun w => ∀ f ∈ w, ScOk f) _ (fun r h => sh_ws h) rs h2
  exact ⟨l, rfl, hl⟩
theorem sh_st {n : Nat} {ps : List PV} (h : ShC ty (n + 2) 26 ps) : ∃ l : List (List Int), ps = [.ro (.rows 1 (l.map fun w => [.ro (.ints .i64 w)]))] ∧ ∀ w ∈ l, ∀ x ∈ w, -9223372036854775808 ≤ x ∧ x ≤ 9223372036854775807 := by
  obtain ⟨cs, rfl, h1, rs, rfl, h2⟩ := (show ∃ cs, ps = [.ro cs] ∧ cs.len ≤ maxLen ∧ ∃ rs, cs = .rows 1 rs ∧ ∀ r ∈ rs, ShC ty (n + 1) 22 r from h)
  obtain ⟨l, rfl, hl⟩ := rows_map (fun w : List Int => [PV.ro (.ints .i64 w)]) (fun w => ∀ x ∈ w, -9223372036854775808 ≤ x ∧ x ≤ 9223372036854775807) _ (fun r h => sh_ints h) rs h2
  exact ⟨l, rfl, hl⟩
def I64 (x : Int) : Prop := -9223372036854775808 ≤ x ∧ x ≤ 9223372036854775807
theorem sh_chan {n : Nat} {ps : List PV} (h : ShC ty (n + 5) 29 ps) : ∃ (ga s sh m : Int) (g : List Int) (se : List (List Sc)) (st : List (List Int)) (tn : List (List Fl)) (ln : List Int),
    ps = [.int .i64 ga, .int .u8 s, .int .u8 sh, .int .i64 m, .ro (.ints .i64 g), .ro (.rows 1 (se.map fun w => [.ro (.rows 2 (w.map Sc.row))])), .ro (.rows 1 (st.map fun w => [.ro (.ints .i64 w)])), .ro (.rows 1 (tn.map fun w => [.ro (.rows 5 (w.map Fl.row))])), .ro (.ints .i64 ln)] ∧
    I64 ga ∧ ((0 ≤ s ∧ s ≤ 255) ∧ 0 ≤ sh ∧ sh ≤ 255) ∧ I64 m ∧ (∀ x ∈ g, I64 x) ∧ (∀ w ∈ se, ∀ f ∈ w, ScOk f) ∧ (∀ w ∈ st, ∀ x ∈ w, I64 x) ∧ (∀ w ∈ tn, ∀ f ∈ w, FlOk f) ∧ ∀ x ∈ ln, I64 x := by
  obtain ⟨a, b, rfl, h1, c, d, rfl, h2, e, f, rfl, h3, g, i, rfl, h4, j, k, rfl, h5, o, p, rfl, h6, h7⟩ := (show ShF (ShC ty (n + 4)) [(3, 0), (24, 1), (25, 5), (26, 6), (27, 7), (22, 8)] ps from h)
  have h7 : p = [] := h7
  subst h7
  obtain ⟨ga, rfl, b1⟩ := sh_i64 h1
  obtain ⟨s, sh, m, gr, rfl, b2, b3, b4, b5⟩ := sh_info h2
  obtain ⟨se, rfl, b6⟩ := sh_se h3
  obtain ⟨st, rfl, b7⟩ := sh_st h4
  obtain ⟨tn, rfl, b8⟩ := sh_l h5
  obtain ⟨ln, rfl, b9⟩ := sh_ints h6
  exact ⟨ga, s, sh, m, gr, se, st, tn, ln, rfl, b1, ⟨b2, b3⟩, b4, b5, b6, b7, b8, b9⟩

end Go.Proofs.Ytmkgfgdipkagbaa

