import Derived.Test.YtgheplondkoedaaWf
import Derived.Test.YtgheplondkoedaaTyh
import Derived.Test.YtgheplondkoedaaBitt
namespace Go.Proofs.Ytgheplondkoedaa
set_option linter.unusedVariables false
set_option linter.unusedSimpArgs false
set_option maxRecDepth 10000
open Go Go.Pv

open Go.RowKit
theorem rep_rd {c : Cx} {q : Bool} {k : IntKind} {xs : List Int} {v : Value} (h : Rep c q (.ro (.ints k xs)) v) : ∃ A cp, v = .slice A xs.length cp ∧ Rd k c.w A xs.length xs := by
  rcases ro_at h with ⟨h0, A, cp, rfl⟩ | ⟨b, off, cp, rfl, hcp, hat, hb, hlt⟩
  · have hx : xs.length = 0 := h0
    have : xs = [] := List.eq_nil_of_length_eq_zero hx
    subst this
    exact ⟨A, cp, rfl, Rd.nil⟩
  · refine ⟨_, cp, rfl, rfl, fun hn => ⟨b, off, rfl, hlt, fun i hi => ?_⟩⟩
    obtain ⟨u, h1, h2, _⟩ := hat i 0 hi (by show 0 < 1; omega)
    have e : off + (i * (Cells.ints k xs).w + 0) = off + i := by show off + (i * 1 + 0) = _; omega
    rw [e] at h1
    rw [h1]
    have e2 : (Cells.ints k xs).get i 0 = .int k (xs[i]?.getD 0) := by
      simp [Cells.get, List.getD_eq_getElem?_getD]
    rw [e2] at h2
    cases h2
    rfl
theorem own_rep {S : Nat → Prop} {B : Nat} {ty : TypeId} {k : IntKind} {w : World} {v : Value} {xs : List Int} (h : Own B ty k w v xs) (hS : ∀ b, S b → b < B) : Rep (see S w) true (.ro (.ints k xs)) v := by
  refine ro_of_own (B := B) (c := see S w) (see S w) rfl (e := ty) (cs := .ints k xs) (V := v) (vs := xs.map (Value.int k)) h ⟨by simp [Cells.len, Cells.w], fun i j hi hj => ?_⟩ (.inl rfl) (fun g hg hs => ?_) true
  · have hj : j = 0 := by have : j < 1 := hj; omega
    subst hj
    have hi' : i < xs.length := hi
    refine ⟨.int k (xs[i]?.getD 0), ?_, ?_, rfl⟩
    · show (xs.map (Value.int k))[i * 1 + 0]? = _
      simp [hi']
    · have e2 : (Cells.ints k xs).get i 0 = .int k (xs[i]?.getD 0) := by
        simp [Cells.get, List.getD_eq_getElem?_getD]
      rw [e2]
      exact .int ..
  · rcases h.2 with ⟨rfl, _⟩ | ⟨g', cap, cur, rfl, hB, _⟩
    · simp [blkOf] at hg
    · simp [blkOf] at hg
      subst hg
      have := hS _ hs
      omega
theorem args3 {c : Cx} {q : Bool} {p1 p2 p3 : PV} {vs : Array Value} (h : ArgsOk c q [p1, p2, p3] vs) : ∃ v1 v2 v3, vs = #[v1, v2, v3] ∧ Rep c q p1 v1 ∧ Rep c q p2 v2 ∧ Rep c q p3 v3 := by
  obtain ⟨h1, h2⟩ := h
  obtain ⟨l⟩ := vs
  match l, h1 with
  | [a, b, d], _ => exact ⟨a, b, d, rfl, h2 0 _ _ rfl rfl, h2 1 _ _ rfl rfl, h2 2 _ _ rfl rfl⟩
theorem put_ok (xs : List Int) (num size : Int) (hm : xs.length ≤ 17592186043000) (hn : -9223372036854775808 ≤ num ∧ num ≤ 9223372036854775807) :
    PCall Try.prog 50 [.ro (.ints .u8 xs), .int .i64 num, .int .i64 size] (.tup [.ro (.ints .u8 (putL xs num size)), .int .i64 (putE num size)]) := by
  refine ⟨⟨_, Try.func50, by simp [Try.f50], rfl⟩, fun w vs S hS ha => ?_⟩
  obtain ⟨v1, v2, v3, rfl, h1, h2, h3⟩ := args3 ha
  obtain ⟨A, cp, rfl, hr⟩ := rep_rd h1
  cases h2
  cases h3
  refine (put_any A xs.length cp xs num size w hr hm hn).mono ?_
  rintro e w' ⟨v, rfl, ho, hb⟩
  refine ⟨_, rfl, .tup true _ _ rfl (fun i p u hp hu => ?_), hb⟩
  match i with
  | 0 => cases hp; cases hu; exact own_rep ho hS
  | 1 => cases hp; cases hu; exact .int ..
theorem get_ok (xs : List Int) (at_ size : Int) (hm : xs.length ≤ 140737488355328) (hp : ∀ k : Nat, 0 ≤ xs[k]?.getD 0 ∧ xs[k]?.getD 0 ≤ 255) (hn : -9223372036854775808 ≤ at_ ∧ at_ ≤ 9223372036854775807) :
    PCall Try.prog 76 [.ro (.ints .u8 xs), .int .i64 at_, .int .i64 size] (.tup [.int .i64 (getN xs at_ size), .int .i64 (getP xs at_ size), .int .i64 (getE xs at_ size)]) := by
  refine ⟨⟨_, Try.func76, by simp [Try.f76], rfl⟩, fun w vs S hS ha => ?_⟩
  obtain ⟨v1, v2, v3, rfl, h1, h2, h3⟩ := args3 ha
  obtain ⟨A, cp, rfl, hr⟩ := rep_rd h1
  cases h2
  cases h3
  refine (get_any A xs.length cp xs at_ size w hr hm hp hn).mono ?_
  rintro e w' ⟨rfl, rfl⟩
  refine ⟨_, rfl, .tup true _ _ rfl (fun i p u hp hu => ?_), Below.refl _ _⟩
  match i with
  | 0 => cases hp; cases hu; exact .int ..
  | 1 => cases hp; cases hu; exact .int ..
  | 2 => cases hp; cases hu; exact .int ..

end Go.Proofs.Ytgheplondkoedaa

