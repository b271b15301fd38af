import Derived.Test.YtmkgfgdipkagbaaWf
import Derived.Test.YtmkgfgdipkagbaaTyl
import Derived.Test.YtmkgfgdipkagbaaLtns
namespace Go.Proofs.Ytmkgfgdipkagbaa
set_option linter.unusedVariables false
set_option linter.unusedSimpArgs false
set_option maxRecDepth 10000
open Go Go.Pv


theorem wf_i64 {z : Int} (h : (Lit.int .i64 z).wf = true) : -9223372036854775808 ≤ z ∧ z ≤ 9223372036854775807 := by
  simp only [Lit.wf, Bool.and_eq_true, decide_eq_true_eq] at h
  exact h
theorem wf_u8 {z : Int} (h : (Lit.int .u8 z).wf = true) : 0 ≤ z ∧ z ≤ 255 := by
  simp only [Lit.wf, Bool.and_eq_true, decide_eq_true_eq] at h
  exact h
theorem sh_i64 {n : Nat} {ps : List PV} (h : ShC ty (n + 1) 3 ps) : ∃ z, ps = [.int .i64 z] ∧ -9223372036854775808 ≤ z ∧ z ≤ 9223372036854775807 := by
  obtain ⟨z, h1, h2⟩ := (show ∃ z, ps = [.int .i64 z] ∧ (Lit.int .i64 z).wf = true from h)
  exact ⟨z, h1, wf_i64 h2⟩
theorem sh_u8 {n : Nat} {ps : List PV} (h : ShC ty (n + 1) 5 ps) : ∃ z, ps = [.int .u8 z] ∧ 0 ≤ z ∧ z ≤ 255 := by
  obtain ⟨z, h1, h2⟩ := (show ∃ z, ps = [.int .u8 z] ∧ (Lit.int .u8 z).wf = true from h)
  exact ⟨z, h1, wf_u8 h2⟩
theorem sh_ints {n : Nat} {ps : List PV} (h : ShC ty (n + 1) 22 ps) : ∃ xs : List Int, ps = [.ro (.ints .i64 xs)] ∧ (∀ x ∈ xs, -9223372036854775808 ≤ x ∧ x ≤ 9223372036854775807) := by
  obtain ⟨cs, rfl, h1, xs, rfl, h2⟩ := (show ∃ cs, ps = [.ro cs] ∧ cs.len ≤ maxLen ∧ ∃ xs, cs = .ints .i64 xs ∧ ∀ x ∈ xs, (Lit.int .i64 x).wf = true from h)
  exact ⟨xs, rfl, fun x hx => wf_i64 (h2 x hx)⟩
theorem sh_info {n : Nat} {ps : List PV} (h : ShC ty (n + 2) 24 ps) : ∃ s sh m g, ps = [.int .u8 s, .int .u8 sh, .int .i64 m, .ro (.ints .i64 g)] ∧ (0 ≤ s ∧ s ≤ 255) ∧ (0 ≤ sh ∧ sh ≤ 255) ∧ (-9223372036854775808 ≤ m ∧ m ≤ 9223372036854775807) ∧ (∀ x ∈ g, -9223372036854775808 ≤ x ∧ x ≤ 9223372036854775807) := by
  obtain ⟨a, b, rfl, h1, c, d, rfl, h2, e, f, rfl, h3, g, i, rfl, h4, h5⟩ := (show ShF (ShC ty (n + 1)) [(5, 0), (5, 1), (3, 2), (22, 3)] ps from h)
  have h5 : i = [] := h5
  subst h5
  obtain ⟨s, rfl, b1⟩ := sh_u8 h1
  obtain ⟨sh, rfl, b2⟩ := sh_u8 h2
  obtain ⟨m, rfl, b3⟩ := sh_i64 h3
  obtain ⟨xs, rfl, b4⟩ := sh_ints h4
  exact ⟨s, sh, m, xs, rfl, b1, b2, b3, b4⟩
theorem sh_bool {n : Nat} {ps : List PV} (h : ShC ty (n + 1) 4 ps) : ∃ b : Bool, ps = [.bool b] := h
theorem rows_map {α : Type} (f : α → List PV) (Q : α → Prop) (S : List PV → Prop) (h : ∀ r, S r → ∃ a, r = f a ∧ Q a) : ∀ rs : List (List PV), (∀ r ∈ rs, S r) → ∃ l : List α, rs = l.map f ∧ ∀ a ∈ l, Q a
  | [], _ => ⟨[], rfl, by simp⟩
  | r :: rs, hr => by
    obtain ⟨a, rfl, ha⟩ := h r (hr r (by simp))
    obtain ⟨l, rfl, hl⟩ := rows_map f Q S h rs fun r h => hr r (by simp [h])
    refine ⟨a :: l, rfl, fun b hb => ?_⟩
    rcases List.mem_cons.1 hb with rfl | hb
    · exact ha
    · exact hl b hb
def FlOk (f : Fl) : Prop := (-9223372036854775808 ≤ f.len ∧ f.len ≤ 9223372036854775807) ∧ (-9223372036854775808 ≤ f.order ∧ f.order ≤ 9223372036854775807) ∧ ∀ x ∈ f.co, -9223372036854775808 ≤ x ∧ x ≤ 9223372036854775807
theorem sh_fl {n : Nat} {ps : List PV} (h : ShC ty (n + 2) 35 ps) : ∃ f : Fl, ps = f.row ∧ FlOk f := by
  obtain ⟨a, b, rfl, h1, c, d, rfl, h2, e, f, rfl, h3, g, i, rfl, h4, j, k, rfl, h5, h6⟩ := (show ShF (ShC ty (n + 1)) [(3, 0), (3, 1), (4, 2), (4, 3), (22, 4)] ps from h)
  have h6 : k = [] := h6
  subst h6
  obtain ⟨x, rfl, b1⟩ := sh_i64 h1
  obtain ⟨y, rfl, b2⟩ := sh_i64 h2
  obtain ⟨z, rfl⟩ := sh_bool h3
  obtain ⟨w, rfl⟩ := sh_bool h4
  obtain ⟨xs, rfl, b5⟩ := sh_ints h5
  exact ⟨⟨x, y, z, w, xs⟩, rfl, b1, b2, b5⟩
theorem sh_w {n : Nat} {ps : List PV} (h : ShC ty (n + 3) 33 ps) : ∃ w : List Fl, ps = [.ro (.rows 5 (w.map Fl.row))] ∧ ∀ f ∈ w, FlOk f := by
  obtain ⟨cs, rfl, h1, rs, rfl, h2⟩ := (show ∃ cs, ps = [.ro cs] ∧ cs.len ≤ maxLen ∧ ∃ rs, cs = .rows 5 rs ∧ ∀ r ∈ rs, ShC ty (n + 2) 35 r from h)
  obtain ⟨w, rfl, hw⟩ := rows_map Fl.row FlOk _ (fun r h => sh_fl h) rs h2
  exact ⟨w, rfl, hw⟩
theorem sh_l {n : Nat} {ps : List PV} (h : ShC ty (n + 4) 27 ps) : ∃ l : List (List Fl), ps = [.ro (.rows 1 (l.map fun w => [.ro (.rows 5 (w.map Fl.row))]))] ∧ ∀ w ∈ l, ∀ f ∈ w, FlOk f := by
  obtain ⟨cs, rfl, h1, rs, rfl, h2⟩ := (show ∃ cs, ps = [.ro cs] ∧ cs.len ≤ maxLen ∧ ∃ rs, cs = .rows 1 rs ∧ ∀ r ∈ rs, ShC ty (n + 3) 33 r from h)
  obtain ⟨l, rfl, hl⟩ := rows_map (fun w : List Fl => [PV.ro (.rows 5 (w.map Fl.row))]) (fun w => ∀ f ∈ w, FlOk f) _ (fun r h => sh_w h) rs h2
  exact ⟨l, rfl, hl⟩

end Go.Proofs.Ytmkgfgdipkagbaa

