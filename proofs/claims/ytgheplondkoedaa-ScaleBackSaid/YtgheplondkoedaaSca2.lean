import Derived.Test.YtgheplondkoedaaWf
import Derived.Test.YtgheplondkoedaaTyh
import Derived.Test.YtgheplondkoedaaHbits
import Derived.Test.YtgheplondkoedaaHbits2
import Derived.Test.YtgheplondkoedaaHsrt
import Derived.Test.YtgheplondkoedaaHbk
import Derived.Test.YtgheplondkoedaaSca
namespace Go.Proofs.Ytgheplondkoedaa
set_option linter.unusedVariables false
set_option linter.unusedSimpArgs false
set_option maxRecDepth 10000
open Go Go.Pv

open Go.RowKit
def rfC : Code → List (Code × Code)
 | .seq a b => rfC a ++ rfC b
 | .cond _ a b => rfC a ++ rfC b
 | .block _ a => rfC a
 | .loop a => rfC a
 | .scope a => rfC a
 | .rangeFunc _ _ a b => [(a, b)]
 | _ => []
def rfN (f : Func) (k : Nat) : Code × Code := ((f.body.map rfC).getD []).getD k (.skip, .skip)
theorem psOf_lo {nt k : Nat} {s : List (Nat × PV)} (h : s.all (fun p => p.2.lo k) = true) : ∀ x ∈ psOf nt s, PV.lo k x = true := fun x hx => by
 obtain ⟨t, _, rfl⟩ := List.mem_map.1 hx
 rcases getT_mem s t with h1 | h1
 ·rw [h1]; rfl
 ·exact List.all_eq_true.1 h _ h1
theorem psOf_mem {nt : Nat} {s : List (Nat × PV)} {x : PV} (hx : x ∈ psOf nt s) : x = .any ∨ ∃ p ∈ s, p.2 = x := by
 obtain ⟨t, _, rfl⟩ := List.mem_map.1 hx
 rcases getT_mem s t with h1 | h1
 ·exact .inl h1
 ·exact .inr ⟨_, h1, rfl⟩

def absI (n : Int) : Int := if n < 0 then -n else n
theorem bd_iff {a : Int × Int} {b n : Int} : bdB a b n = true ↔ (b = 0 → n = 0) ∧ (b = 13 → (0 ≤ n ∧ n ≤ 511) ∧ (a.2 < 0 ∨ (a.2 - 60 ≤ n ∧ n ≤ a.2 + 60))) ∧ (¬ b = 0 → ¬ b = 13 → (0 ≤ n ∧ n ≤ 255) ∧ a.1 - 60 ≤ n ∧ n ≤ a.1 + 60) := by
 unfold bdB
 by_cases h0 : b = 0
 ·rw [if_pos h0, decide_eq_true_eq]
  omega
 ·rw [if_neg h0]
  unfold tkB
  by_cases h1 : b = 13
  ·rw [if_pos h1, decide_eq_true_eq]
   omega
  ·rw [if_neg h1, decide_eq_true_eq]
   omega
theorem RW_F {l : List (List Sc)} {k : Nat} (hk : k < l.length) (h : ∀ w ∈ l, (∀ x ∈ w, badS x = false) ∧ (w.map Sc.len).sum ≤ 40 ∧ w.length ≤ 40) : (RW l k).length ≤ 40 ∧ (∀ j : Nat, 0 ≤ (RW l k)[j]?.getD 0 ∧ ((RW l k)[j]?.getD 0 ≤ 11 ∨ (RW l k)[j]?.getD 0 = 13)) ∧ (l[k]?.getD []).length ≤ 40 ∧ ∀ x ∈ l[k]?.getD [], badS x = false := by
 obtain ⟨h1, h2, h3⟩ := h _ (mem_at (w := l) (j := k) hk)
 have h1 : ∀ x ∈ l[k]?.getD [], badS x = false := h1
 have h4 := bkR_len h1
 have h2 : ((l[k]?.getD []).map Sc.len).sum ≤ 40 := h2
 refine ⟨by unfold RW; omega, fun j => ?_, h3, h1⟩
 by_cases hj : j < (RW l k).length
 ·rw [List.getElem?_eq_getElem hj]
  exact bkR_mem h1 _ (List.getElem_mem hj)
 ·rw [List.getElem?_eq_none (by omega)]
  exact ⟨by decide, .inl (by decide)⟩

end Go.Proofs.Ytgheplondkoedaa

