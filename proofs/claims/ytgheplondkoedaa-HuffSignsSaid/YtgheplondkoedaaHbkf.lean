import Derived.Test.YtgheplondkoedaaWf
import Derived.Test.YtgheplondkoedaaTyh
namespace Go.Proofs.Ytgheplondkoedaa
set_option linter.unusedVariables false
set_option linter.unusedSimpArgs false
set_option maxRecDepth 10000
open Go Go.Pv


theorem wf_i64 {z : Int} (h : (Lit.int .i64 z).wf = true) : -9223372036854775808 ≤ z ∧ z ≤ 9223372036854775807 := by
  simp only [Lit.wf, Bool.and_eq_true, decide_eq_true_eq] at h
  exact h
theorem wf_u8 {z : Int} (h : (Lit.int .u8 z).wf = true) : 0 ≤ z ∧ z ≤ 255 := by
  simp only [Lit.wf, Bool.and_eq_true, decide_eq_true_eq] at h
  exact h
theorem sh_u8 {n : Nat} {ps : List PV} (h : ShC ty (n + 1) 5 ps) : ∃ z, ps = [.int .u8 z] ∧ 0 ≤ z ∧ z ≤ 255 := by
  obtain ⟨z, h1, h2⟩ := (show ∃ z, ps = [.int .u8 z] ∧ (Lit.int .u8 z).wf = true from h)
  exact ⟨z, h1, wf_u8 h2⟩
theorem sh_ints {n : Nat} {ps : List PV} (h : ShC ty (n + 1) 23 ps) : ∃ xs : List Int, ps = [.ro (.ints .i64 xs)] ∧ (∀ x ∈ xs, -9223372036854775808 ≤ x ∧ x ≤ 9223372036854775807) := by
  obtain ⟨cs, rfl, h1, xs, rfl, h2⟩ := (show ∃ cs, ps = [.ro cs] ∧ cs.len ≤ maxLen ∧ ∃ xs, cs = .ints .i64 xs ∧ ∀ x ∈ xs, (Lit.int .i64 x).wf = true from h)
  exact ⟨xs, rfl, fun x hx => wf_i64 (h2 x hx)⟩
end Go.Proofs.Ytgheplondkoedaa

