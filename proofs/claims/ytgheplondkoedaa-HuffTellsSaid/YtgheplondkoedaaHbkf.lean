import Derived.Test.YtgheplondkoedaaWf
import Derived.Test.YtgheplondkoedaaTyh
namespace Go.Proofs.Ytgheplondkoedaa
set_option linter.unusedVariables false
set_option linter.unusedSimpArgs false
set_option maxRecDepth 10000
open Go Go.Pv


theorem wf_i64 {z : Int} (h : (Lit.int .i64 z).wf = true) : -9223372036854775808 ≤ z ∧ z ≤ 9223372036854775807 := by
  simp only [Lit.wf, Bool.and_eq_true, decide_eq_true_eq] at h
  exact h
theorem wf_u8 {z : Int} (h : (Lit.int .u8 z).wf = true) : 0 ≤ z ∧ z ≤ 255 := by
  simp only [Lit.wf, Bool.and_eq_true, decide_eq_true_eq] at h
  exact h
theorem sh_i64 {n : Nat} {ps : List PV} (h : ShC ty (n + 1) 3 ps) : ∃ z, ps = [.int .i64 z] ∧ -9223372036854775808 ≤ z ∧ z ≤ 9223372036854775807 := by
  obtain ⟨z, h1, h2⟩ := (show ∃ z, ps = [.int .i64 z] ∧ (Lit.int .i64 z).wf = true from h)
  exact ⟨z, h1, wf_i64 h2⟩
theorem sh_ints {n : Nat} {ps : List PV} (h : ShC ty (n + 1) 23 ps) : ∃ xs : List Int, ps = [.ro (.ints .i64 xs)] ∧ (∀ x ∈ xs, -9223372036854775808 ≤ x ∧ x ≤ 9223372036854775807) := by
  obtain ⟨cs, rfl, h1, xs, rfl, h2⟩ := (show ∃ cs, ps = [.ro cs] ∧ cs.len ≤ maxLen ∧ ∃ xs, cs = .ints .i64 xs ∧ ∀ x ∈ xs, (Lit.int .i64 x).wf = true from h)
  exact ⟨xs, rfl, fun x hx => wf_i64 (h2 x hx)⟩
theorem sh_bytes {n : Nat} {ps : List PV} (h : ShC ty (n + 1) 22 ps) : ∃ xs : List Int, ps = [.ro (.ints .u8 xs)] ∧ (∀ x ∈ xs, 0 ≤ x ∧ x ≤ 255) := by
  obtain ⟨cs, rfl, h1, xs, rfl, h2⟩ := (show ∃ cs, ps = [.ro cs] ∧ cs.len ≤ maxLen ∧ ∃ xs, cs = .ints .u8 xs ∧ ∀ x ∈ xs, (Lit.int .u8 x).wf = true from h)
  exact ⟨xs, rfl, fun x hx => wf_u8 (h2 x hx)⟩

theorem sh_book {n : Nat} {ps : List PV} (h : ShC ty (n + 2) 25 ps) : ∃ (id p : Int) (es rs : List Int), ps = [.int .i64 id, .int .i64 p, .ro (.ints .i64 es), .ro (.ints .i64 rs)] ∧ -9223372036854775808 ≤ id ∧ id ≤ 9223372036854775807 := by
  obtain ⟨a, b, rfl, h1, c, d, rfl, h2, e, f, rfl, h3, g, i, rfl, h4, h5⟩ := (show ShF (ShC ty (n + 1)) [(3, 0), (3, 1), (23, 2), (23, 3)] ps from h)
  have h5 : i = [] := h5
  subst h5
  obtain ⟨id, rfl, b1⟩ := sh_i64 h1
  obtain ⟨p, rfl, _⟩ := sh_i64 h2
  obtain ⟨es, rfl, _⟩ := sh_ints h3
  obtain ⟨rs, rfl, _⟩ := sh_ints h4
  exact ⟨id, p, es, rs, rfl, b1⟩
theorem at255 {b : List Int} (h : ∀ x ∈ b, 0 ≤ x ∧ x ≤ 255) (k : Nat) : 0 ≤ b[k]?.getD 0 ∧ b[k]?.getD 0 ≤ 255 := by
  cases hk : b[k]? with
  | none => exact ⟨by decide, by decide⟩
  | some v => exact h v (List.mem_of_getElem? hk)

end Go.Proofs.Ytgheplondkoedaa

