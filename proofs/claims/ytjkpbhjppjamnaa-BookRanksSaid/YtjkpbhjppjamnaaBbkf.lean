import Derived.Test.YtjkpbhjppjamnaaWb
import Derived.Test.YtjkpbhjppjamnaaTyb
import Derived.Test.YtjkpbhjppjamnaaWf
namespace Go.Proofs.Ytjkpbhjppjamnaa
set_option linter.unusedVariables false
set_option linter.unusedSimpArgs false
set_option maxRecDepth 10000
open Go Go.Pv


theorem wf_u8 {z : Int} (h : (Lit.int .u8 z).wf = true) : 0 ≤ z ∧ z ≤ 255 := by
  simp only [Lit.wf, Bool.and_eq_true, decide_eq_true_eq] at h
  exact h
theorem sh_u8 {n : Nat} {ps : List PV} (h : ShC ty (n + 1) 5 ps) : ∃ z, ps = [.int .u8 z] ∧ 0 ≤ z ∧ z ≤ 255 := by
  obtain ⟨z, h1, h2⟩ := (show ∃ z, ps = [.int .u8 z] ∧ (Lit.int .u8 z).wf = true from h)
  exact ⟨z, h1, wf_u8 h2⟩
theorem sh_u16 {n : Nat} {ps : List PV} (h : ShC ty (n + 1) 53 ps) : ∃ z : Nat, ps = [.int .u16 z] ∧ z ≤ 65535 := by
  obtain ⟨z, h1, h2⟩ := (show ∃ z, ps = [.int .u16 z] ∧ (Lit.int .u16 z).wf = true from h)
  simp only [Lit.wf, Bool.and_eq_true, decide_eq_true_eq] at h2
  have h3 : 0 ≤ z ∧ z ≤ 65535 := h2
  exact ⟨z.toNat, by rw [h1, Int.toNat_of_nonneg h3.1], by omega⟩
end Go.Proofs.Ytjkpbhjppjamnaa

