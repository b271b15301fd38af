import Derived.Test.YtgheplondkoedaaWf
import Derived.Test.YtgheplondkoedaaTyh
import Derived.Test.YtgheplondkoedaaSca
namespace Go.Proofs.Ytgheplondkoedaa
set_option linter.unusedVariables false
set_option linter.unusedSimpArgs false
set_option maxRecDepth 10000
open Go Go.Pv


theorem wf_i64 {z : Int} (h : (Lit.int .i64 z).wf = true) : -9223372036854775808 ≤ z ∧ z ≤ 9223372036854775807 := by
  simp only [Lit.wf, Bool.and_eq_true, decide_eq_true_eq] at h
  exact h
theorem wf_u8 {z : Int} (h : (Lit.int .u8 z).wf = true) : 0 ≤ z ∧ z ≤ 255 := by
  simp only [Lit.wf, Bool.and_eq_true, decide_eq_true_eq] at h
  exact h
theorem sh_i64 {n : Nat} {ps : List PV} (h : ShC ty (n + 1) 3 ps) : ∃ z, ps = [.int .i64 z] ∧ -9223372036854775808 ≤ z ∧ z ≤ 9223372036854775807 := by
  obtain ⟨z, h1, h2⟩ := (show ∃ z, ps = [.int .i64 z] ∧ (Lit.int .i64 z).wf = true from h)
  exact ⟨z, h1, wf_i64 h2⟩
theorem sh_ints {n : Nat} {ps : List PV} (h : ShC ty (n + 1) 23 ps) : ∃ xs : List Int, ps = [.ro (.ints .i64 xs)] ∧ (∀ x ∈ xs, -9223372036854775808 ≤ x ∧ x ≤ 9223372036854775807) := by
  obtain ⟨cs, rfl, h1, xs, rfl, h2⟩ := (show ∃ cs, ps = [.ro cs] ∧ cs.len ≤ maxLen ∧ ∃ xs, cs = .ints .i64 xs ∧ ∀ x ∈ xs, (Lit.int .i64 x).wf = true from h)
  exact ⟨xs, rfl, fun x hx => wf_i64 (h2 x hx)⟩
theorem sh_bytes {n : Nat} {ps : List PV} (h : ShC ty (n + 1) 22 ps) : ∃ xs : List Int, ps = [.ro (.ints .u8 xs)] ∧ (∀ x ∈ xs, 0 ≤ x ∧ x ≤ 255) := by
  obtain ⟨cs, rfl, h1, xs, rfl, h2⟩ := (show ∃ cs, ps = [.ro cs] ∧ cs.len ≤ maxLen ∧ ∃ xs, cs = .ints .u8 xs ∧ ∀ x ∈ xs, (Lit.int .u8 x).wf = true from h)
  exact ⟨xs, rfl, fun x hx => wf_u8 (h2 x hx)⟩
theorem rows_map {α : Type} (f : α → List PV) (Q : α → Prop) (S : List PV → Prop) (h : ∀ r, S r → ∃ a, r = f a ∧ Q a) : ∀ rs : List (List PV), (∀ r ∈ rs, S r) → ∃ l : List α, rs = l.map f ∧ ∀ a ∈ l, Q a
  | [], _ => ⟨[], rfl, by simp⟩
  | r :: rs, hr => by
    obtain ⟨a, rfl, ha⟩ := h r (hr r (by simp))
    obtain ⟨l, rfl, hl⟩ := rows_map f Q S h rs fun r h => hr r (by simp [h])
    refine ⟨a :: l, rfl, fun b hb => ?_⟩
    rcases List.mem_cons.1 hb with rfl | hb
    · exact ha
    · exact hl b hb
def ScOk (f : Sc) : Prop := (-9223372036854775808 ≤ f.book ∧ f.book ≤ 9223372036854775807) ∧ -9223372036854775808 ≤ f.len ∧ f.len ≤ 9223372036854775807
theorem sh_sc {n : Nat} {ps : List PV} (h : ShC ty (n + 2) 63 ps) : ∃ f : Sc, ps = f.row ∧ ScOk f := by
  obtain ⟨a, b, rfl, h1, c, d, rfl, h2, h6⟩ := (show ShF (ShC ty (n + 1)) [(3, 0), (3, 1)] ps from h)
  have h6 : d = [] := h6
  subst h6
  obtain ⟨x, rfl, b1⟩ := sh_i64 h1
  obtain ⟨y, rfl, b2⟩ := sh_i64 h2
  exact ⟨⟨x, y⟩, rfl, b1, b2⟩
theorem sh_ws {n : Nat} {ps : List PV} (h : ShC ty (n + 3) 61 ps) : ∃ w : List Sc, ps = [.ro (.rows 2 (w.map Sc.row))] ∧ ∀ f ∈ w, ScOk f := by
  obtain ⟨cs, rfl, h1, rs, rfl, h2⟩ := (show ∃ cs, ps = [.ro cs] ∧ cs.len ≤ maxLen ∧ ∃ rs, cs = .rows 2 rs ∧ ∀ r ∈ rs, ShC ty (n + 2) 63 r from h)
  obtain ⟨w, rfl, hw⟩ := rows_map Sc.row ScOk _ (fun r h => sh_sc h) rs h2
  exact ⟨w, rfl, hw⟩
theorem sh_se {n : Nat} {ps : List PV} (h : ShC ty (n + 4) 55 ps) : ∃ l : List (List Sc), ps = [.ro (.rows 1 (l.map fun w => [.ro (.rows 2 (w.map Sc.row))]))] ∧ ∀ w ∈ l, ∀ f ∈ w, ScOk f := by
  obtain ⟨cs, rfl, h1, rs, rfl, h2⟩ := (show ∃ cs, ps = [.ro cs] ∧ cs.len ≤ maxLen ∧ ∃ rs, cs = .rows 1 rs ∧ ∀ r ∈ rs, ShC ty (n + 3) 61 r from h)
  obtain ⟨l, rfl, hl⟩ := rows_map (fun w : List Sc => [PV.ro (.rows 2 (w.map Sc.row))]) (fun w => ∀ f ∈ w, ScOk f) _ (fun r h => sh_ws h) rs h2
  exact ⟨l, rfl, hl⟩
theorem sh_st {n : Nat} {ps : List PV} (h : ShC ty (n + 2) 56 ps) : ∃ l : List (List Int), ps = [.ro (.rows 1 (l.map fun w => [.ro (.ints .i64 w)]))] ∧ ∀ w ∈ l, ∀ x ∈ w, -9223372036854775808 ≤ x ∧ x ≤ 9223372036854775807 := by
  obtain ⟨cs, rfl, h1, rs, rfl, h2⟩ := (show ∃ cs, ps = [.ro cs] ∧ cs.len ≤ maxLen ∧ ∃ rs, cs = .rows 1 rs ∧ ∀ r ∈ rs, ShC ty (n + 1) 23 r from h)
  obtain ⟨l, rfl, hl⟩ := rows_map (fun w : List Int => [PV.ro (.ints .i64 w)]) (fun w => ∀ x ∈ w, -9223372036854775808 ≤ x ∧ x ≤ 9223372036854775807) _ (fun r h => sh_ints h) rs h2
  exact ⟨l, rfl, hl⟩

end Go.Proofs.Ytgheplondkoedaa

