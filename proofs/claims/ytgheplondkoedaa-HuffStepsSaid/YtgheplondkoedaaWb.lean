import Derived.Test.YtgheplondkoedaaWa
namespace Go.Pv
set_option linter.unusedVariables false
open Go Go.RowKit
/-! ### From a contract to a law's frame -/
/-- What the frame of a law's proof tells of a slice of integers that came in. -/
def IsRow (k : IntKind) (w : World) (a : Option Addr) (len cap : Nat) (zs : List Int) : Prop :=
  (a = none ∧ len = 0 ∧ cap = 0 ∧ zs = []) ∨
  ∃ x, a = some x ∧ len ≤ cap ∧ cap ≤ maxLen ∧ zs.length = cap ∧ (∀ i, i < zs.length → w.cell? (x.add i) = some (.int k (zs.getD i 0))) ∧ ∀ n ∈ zs, (Lit.int k n).wf = true
def none1 : Nat → Prop := fun _ => False
theorem IsRow.rep {k : IntKind} {w : World} {a : Option Addr} {len cap : Nat} {zs : List Int} (h : IsRow k w a len cap zs) (q : Bool) : Rep (see none1 w) q (.ro (.ints k (zs.take len))) (.slice a len cap) := by
  rcases h with ⟨rfl, rfl, rfl, rfl⟩ | ⟨x, rfl, hl, _, hz, hc, _⟩
  · exact .ro0 q _ _ _ rfl
  · have hlen : (Cells.ints k (zs.take len)).len = len := by simp [Cells.len]; omega
    by_cases h0 : len = 0
    · subst h0
      exact .ro0 q _ _ _ hlen
    · obtain ⟨b, off, spot⟩ := x
      have hc0 := hc 0 (by omega)
      have hspot : spot = none := by simpa [Addr.add] using World.cell?_spot hc0
      subst hspot
      have hlt : b < w.heap.size := by
        rcases Nat.lt_or_ge b w.heap.size with h | h
        · exact h
        · simp [World.cell?, Addr.add, Array.getElem?_eq_none h] at hc0
      have key := Rep.ro (c := see none1 w) q (.ints k (zs.take len)) b off cap (fun i _ => .int k (zs.getD i 0)) (by omega) (by omega) (fun h => h) hlt (fun i j hi hj => ?_) (fun i j hi hj => ?_)
      · rw [hlen] at key; exact key
      · rw [hlen] at hi
        have hj : j = 0 := by have : j < 1 := hj; omega
        subst hj
        refine ⟨?_, rfl⟩
        have := hc i (by omega)
        unfold Addr.add at this
        show w.cell? ⟨b, off + (i * 1 + 0), none⟩ = _
        rw [Nat.mul_one, Nat.add_zero]
        split at this
        · subst_vars; exact this
        · exact this
      · rw [hlen] at hi
        have : (Cells.ints k (zs.take len)).get i j = .int k (zs.getD i 0) := by
          simp only [Cells.get, List.getD_eq_getElem?_getD]
          rw [List.getElem?_take_of_lt hi]
        rw [this]
        exact .int ..
theorem IsRow.len {k : IntKind} {w : World} {a : Option Addr} {len cap : Nat} {zs : List Int} (h : IsRow k w a len cap zs) : (zs.take len).length ≤ 9223372036854775807 := by
  rcases h with ⟨rfl, rfl, rfl, rfl⟩ | ⟨x, rfl, hl, hm, hz, hc, hw⟩
  · simp
  · rw [List.length_take]
    have : maxLen ≤ 9223372036854775807 := by decide
    omega
theorem IsRow.wf {k : IntKind} {w : World} {a : Option Addr} {len cap : Nat} {zs : List Int} (h : IsRow k w a len cap zs) : ∀ n ∈ zs.take len, (Lit.int k n).wf = true := by
  intro n hn
  have hn := List.mem_of_mem_take hn
  rcases h with ⟨rfl, rfl, rfl, rfl⟩ | ⟨x, rfl, hl, _, hz, hc, hw⟩
  · cases hn
  · exact hw n hn
theorem argsOk_of {c : Cx} {q : Bool} {ps : List PV} {vs : List Value} (h : RepL c q ps vs) : ArgsOk c q ps vs.toArray := ⟨by simpa using h.1, fun i p v h1 h2 => h.2 i p v h1 (by simpa using h2)⟩
theorem law_of {P : Program} {f : FuncId} {ps : List PV} (h : PCall P f ps (.bool true)) {w : World} {vs : List Value} (ha : RepL (see none1 w) true ps vs) : Calls P f vs.toArray w fun e w' => e = .returned (.bool true) ∧ Below w.heap.size w w' := by
  refine (h.2 w vs.toArray none1 (fun b h => h.elim) (argsOk_of ha)).mono ?_
  rintro e w' ⟨v, rfl, hr, hb⟩
  cases hr
  exact ⟨rfl, hb⟩
end Go.Pv
