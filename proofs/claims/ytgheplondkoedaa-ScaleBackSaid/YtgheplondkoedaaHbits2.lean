import Derived.Test.YtgheplondkoedaaWf
import Derived.Test.YtgheplondkoedaaTyh
import Derived.Test.YtgheplondkoedaaHbits
import Derived.Test.YtgheplondkoedaaBitu
import Derived.Test.YtgheplondkoedaaLenb
namespace Go.Proofs.Ytgheplondkoedaa
set_option linter.unusedVariables false
set_option linter.unusedSimpArgs false
set_option maxRecDepth 10000
open Go Go.Pv

open Go.RowKit

theorem args1 {c : Cx} {q : Bool} {p1 : PV} {vs : Array Value} (h : ArgsOk c q [p1] vs) : ∃ v1, vs = #[v1] ∧ Rep c q p1 v1 := by
  obtain ⟨h1, h2⟩ := h
  obtain ⟨l⟩ := vs
  match l, h1 with
  | [a], _ => exact ⟨a, rfl, h2 0 _ _ rfl rfl⟩
theorem args2 {c : Cx} {q : Bool} {p1 p2 : PV} {vs : Array Value} (h : ArgsOk c q [p1, p2] vs) : ∃ v1 v2, vs = #[v1, v2] ∧ Rep c q p1 v1 ∧ Rep c q p2 v2 := by
  obtain ⟨h1, h2⟩ := h
  obtain ⟨l⟩ := vs
  match l, h1 with
  | [a, b], _ => exact ⟨a, b, rfl, h2 0 _ _ rfl rfl, h2 1 _ _ rfl rfl⟩
theorem len_ok (x : Nat) (h : x ≤ 65535) : PCall Try.prog 48 [.int .u64 x] (.int .i64 (Lib.bitLen x)) := by
  refine ⟨⟨_, Try.func48, by simp [Try.f48], rfl⟩, fun w vs S hS ha => ?_⟩
  obtain ⟨v1, rfl, h1⟩ := args1 ha
  cases h1
  refine (len_any x w (by omega) (by omega)).mono ?_
  rintro e w' ⟨rfl, rfl⟩
  exact ⟨_, rfl, by rw [Int.toNat_natCast]; exact .int .., Below.refl _ _⟩

end Go.Proofs.Ytgheplondkoedaa

