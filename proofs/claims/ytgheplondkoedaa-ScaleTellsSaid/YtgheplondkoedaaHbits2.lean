import Derived.Test.YtgheplondkoedaaWf
import Derived.Test.YtgheplondkoedaaTyh
import Derived.Test.YtgheplondkoedaaHbits
import Derived.Test.YtgheplondkoedaaBitu
import Derived.Test.YtgheplondkoedaaLenb
namespace Go.Proofs.Ytgheplondkoedaa
set_option linter.unusedVariables false
set_option linter.unusedSimpArgs false
set_option maxRecDepth 10000
open Go Go.Pv

open Go.RowKit

theorem args1 {c : Cx} {q : Bool} {p1 : PV} {vs : Array Value} (h : ArgsOk c q [p1] vs) : ∃ v1, vs = #[v1] ∧ Rep c q p1 v1 := by
  obtain ⟨h1, h2⟩ := h
  obtain ⟨l⟩ := vs
  match l, h1 with
  | [a], _ => exact ⟨a, rfl, h2 0 _ _ rfl rfl⟩
theorem args2 {c : Cx} {q : Bool} {p1 p2 : PV} {vs : Array Value} (h : ArgsOk c q [p1, p2] vs) : ∃ v1 v2, vs = #[v1, v2] ∧ Rep c q p1 v1 ∧ Rep c q p2 v2 := by
  obtain ⟨h1, h2⟩ := h
  obtain ⟨l⟩ := vs
  match l, h1 with
  | [a, b], _ => exact ⟨a, b, rfl, h2 0 _ _ rfl rfl, h2 1 _ _ rfl rfl⟩
theorem two_ok (s : Nat) (hs : s ≤ 31) : PCall Try.prog 103 [.int .i64 s] (.int .i64 (twoN s)) := by
  refine ⟨⟨_, Try.func103, by simp [Try.f103], rfl⟩, fun w vs S hS ha => ?_⟩
  obtain ⟨v1, rfl, h1⟩ := args1 ha
  cases h1
  refine (two_any s w hs).mono ?_
  rintro e w' ⟨rfl, rfl⟩
  exact ⟨_, rfl, .int .., Below.refl _ _⟩
theorem rbits_ok (n s : Nat) (hn : n ≤ 4611686018427387904) (hs : s ≤ 63) : PCall Try.prog 109 [.int .i64 n, .int .i64 s] (.ro (.ints .u8 (bitsOf n s))) := by
  refine ⟨⟨_, Try.func109, by simp [Try.f109], rfl⟩, fun w vs S hS ha => ?_⟩
  obtain ⟨v1, v2, rfl, h1, h2⟩ := args2 ha
  cases h1
  cases h2
  refine (rbits_any s n w hn hs).mono ?_
  rintro e w' ⟨v, rfl, ho, hb⟩
  exact ⟨_, rfl, own_rep ho hS, hb⟩
theorem rget_ok (xs : List Int) (at_ size : Int) (hm : xs.length ≤ 140737488355328) (hp : ∀ k : Nat, 0 ≤ xs[k]?.getD 0 ∧ xs[k]?.getD 0 ≤ 255) (hn : -9223372036854775808 ≤ at_ ∧ at_ ≤ 9223372036854775807) :
    PCall Try.prog 100 [.ro (.ints .u8 xs), .int .i64 at_, .int .i64 size] (.tup [.int .i64 (getN xs at_ size), .int .i64 (getP xs at_ size), .int .i64 (getE xs at_ size)]) := by
  refine ⟨⟨_, Try.func100, by simp [Try.f100], rfl⟩, fun w vs S hS ha => ?_⟩
  obtain ⟨v1, v2, v3, rfl, h1, h2, h3⟩ := args3 ha
  obtain ⟨A, cp, rfl, hr⟩ := rep_rd h1
  cases h2
  cases h3
  refine (rget_any A xs.length cp xs at_ size w hr hm hp hn).mono ?_
  rintro e w' ⟨rfl, rfl⟩
  refine ⟨_, rfl, .tup true _ _ rfl (fun i p u hp hu => ?_), Below.refl _ _⟩
  match i with
  | 0 => cases hp; cases hu; exact .int ..
  | 1 => cases hp; cases hu; exact .int ..
  | 2 => cases hp; cases hu; exact .int ..
theorem len_ok (x : Nat) (h : x ≤ 65535) : PCall Try.prog 48 [.int .u64 x] (.int .i64 (Lib.bitLen x)) := by
  refine ⟨⟨_, Try.func48, by simp [Try.f48], rfl⟩, fun w vs S hS ha => ?_⟩
  obtain ⟨v1, rfl, h1⟩ := args1 ha
  cases h1
  refine (len_any x w (by omega) (by omega)).mono ?_
  rintro e w' ⟨rfl, rfl⟩
  exact ⟨_, rfl, by rw [Int.toNat_natCast]; exact .int .., Below.refl _ _⟩

end Go.Proofs.Ytgheplondkoedaa

