/-
  The law ScaleBack: steps are got as they were put, whatever stands behind, and put as these bits when got. No condition.
-/
import Derived.Test.YtgheplondkoedaaRows
import Derived.WalkKit
import Derived.ProofKit
import Derived.OpenShut
import Derived.ShutString
import Derived.ChangeOld
import Derived.Below
import Derived.Test.YtgheplondkoedaaSca9
import Derived.Test.YtgheplondkoedaaScaf
import Derived.Test.YtgheplondkoedaaWf
namespace Go.Proofs.Ytgheplondkoedaa.scaleBack
open Go.ChangeShapes Go.WideShapes Go.ChangeAt Go.RowKit
open Go.ChangeMaps (open_string shut_string)
open Go.Proofs.Ytgheplondkoedaa
set_option linter.unusedVariables false

theorem own : ownKnob Try.prog.godebug = none := by kernel_rfl
theorem laidOut : laidOutB Try.prog = true := by kernel_rfl

open Go.Pv
theorem main (p0 : PV) (s0 : ShC ty 6 3 [p0]) (p1 : PV) (s1 : ShC ty 6 55 [p1]) (p2 : PV) (s2 : ShC ty 6 56 [p2]) (p3 : PV) (s3 : ShC ty 6 22 [p3]) (p4 : PV) (s4 : ShC ty 6 22 [p4]) (p5 : PV) (s5 : ShC ty 6 3 [p5]) : PCall Try.prog 10 [p0, p1, p2, p3, p4, p5] (.bool true) := by
  obtain ⟨ga, e, _⟩ := sh_i64 s0
  cases e
  obtain ⟨l, e, _⟩ := sh_se s1
  cases e
  obtain ⟨st, e, _⟩ := sh_st s2
  cases e
  obtain ⟨be, e, h3⟩ := sh_bytes s3
  cases e
  obtain ⟨bs, e, h4⟩ := sh_bytes s4
  cases e
  obtain ⟨a, e, h5⟩ := sh_i64 s5
  cases e
  by_cases hc : chS ga l st = 0
  · exact scaleBack_yes ga l st be h3 bs h4 a h5 hc
  · exact scaleBack_no ga l st be h3 bs h4 a h5 hc

set_option maxRecDepth 100000 in
theorem lifted (os : Os) (started : os.Started) (H : Type) (enc : TypeId × Value → H) :
    ReturnsInHanded {} Try.checked os 10 .any (Rows.scaleBackSpec.pre6 enc Try.prog Try.f10 Rows.scaleBackRow.domain false) (Rows.scaleBackSpec.post enc Try.prog Try.f10 false true false false) := by
  refine returnsInHanded_of_change (C := Try.checked) own started (by kernel_rfl) Try.func10
    (ChangeSpec.witness6 (enc := enc) (C := Try.checked) false ⟨#[], #[.int .i64 0, .slice none 0 0, .slice none 0 0, .slice none 0 0, .slice none 0 0, .int .i64 0], []⟩ 8 (by kernel_rfl) (by kernel_rfl) (by kernel_rfl) (by kernel_rfl)) ?_
  intro W base args ds gs before hval0 hW hcnd _
  have hval : ∀ (j : Nat) t v, Try.f10.params[j]? = some t → args[j]? = some v → Value.okWide Try.prog W .any base t v := hval0
  have hW' := hW
  obtain ⟨p, q, hA0, hV, rfl, hfz, hnd⟩ := hW
  have hA : DataW.TrodAll enc Try.prog W 0 (fun _ => true) true Try.f10.params.toList args.toList ds p := hA0
  rw [Try.params10] at hA hval
  obtain ⟨v0, vs0, d0, ds0, pp0, qq0, hargs, rfl, rfl, h0, r0⟩ := trodAll_cons hA
  obtain ⟨v1, vs1, d1, ds1, pp1, qq1, rfl, rfl, rfl, h1, r1⟩ := trodAll_cons r0
  obtain ⟨v2, vs2, d2, ds2, pp2, qq2, rfl, rfl, rfl, h2, r2⟩ := trodAll_cons r1
  obtain ⟨v3, vs3, d3, ds3, pp3, qq3, rfl, rfl, rfl, h3, r3⟩ := trodAll_cons r2
  obtain ⟨v4, vs4, d4, ds4, pp4, qq4, rfl, rfl, rfl, h4, r4⟩ := trodAll_cons r3
  obtain ⟨v5, vs5, d5, ds5, pp5, qq5, rfl, rfl, rfl, h5, r5⟩ := trodAll_cons r4
  obtain ⟨rfl, rfl, rfl⟩ := trodAll_nil r5
  obtain rfl : args = #[v0, v1, v2, v3, v4, v5] := by cases args; simp_all
  obtain ⟨rfl, rfl⟩ := trodVars_none hV
  have lt0 : ∀ x ∈ pp0, x.block < W.heap.size := by obtain ⟨m, hm⟩ := h0; exact DataW.trod_lt m _ _ _ hm
  obtain ⟨ps0, s0, rr0⟩ := open_one ty_ok (n := 6) (t := 3) (ti := _) rfl rfl (by decide +kernel) (hval 0 3 v0 rfl rfl) h0
  have lt1 : ∀ x ∈ pp1, x.block < W.heap.size := by obtain ⟨m, hm⟩ := h1; exact DataW.trod_lt m _ _ _ hm
  obtain ⟨ps1, s1, rr1⟩ := open_one ty_ok (n := 6) (t := 55) (ti := _) rfl rfl (by decide +kernel) (hval 1 55 v1 rfl rfl) h1
  have lt2 : ∀ x ∈ pp2, x.block < W.heap.size := by obtain ⟨m, hm⟩ := h2; exact DataW.trod_lt m _ _ _ hm
  obtain ⟨ps2, s2, rr2⟩ := open_one ty_ok (n := 6) (t := 56) (ti := _) rfl rfl (by decide +kernel) (hval 2 56 v2 rfl rfl) h2
  have lt3 : ∀ x ∈ pp3, x.block < W.heap.size := by obtain ⟨m, hm⟩ := h3; exact DataW.trod_lt m _ _ _ hm
  obtain ⟨ps3, s3, rr3⟩ := open_one ty_ok (n := 6) (t := 22) (ti := _) rfl rfl (by decide +kernel) (hval 3 22 v3 rfl rfl) h3
  have lt4 : ∀ x ∈ pp4, x.block < W.heap.size := by obtain ⟨m, hm⟩ := h4; exact DataW.trod_lt m _ _ _ hm
  obtain ⟨ps4, s4, rr4⟩ := open_one ty_ok (n := 6) (t := 22) (ti := _) rfl rfl (by decide +kernel) (hval 4 22 v4 rfl rfl) h4
  have lt5 : ∀ x ∈ pp5, x.block < W.heap.size := by obtain ⟨m, hm⟩ := h5; exact DataW.trod_lt m _ _ _ hm
  obtain ⟨ps5, s5, rr5⟩ := open_one ty_ok (n := 6) (t := 3) (ti := _) rfl rfl (by decide +kernel) (hval 5 3 v5 rfl rfl) h5
  clear hA0 hval0
  refine (law_of (vs := [v0, v1, v2, v3, v4, v5]) (main ps0 s0 ps1 s1 ps2 s2 ps3 s3 ps4 s4 ps5 s5) (.cons rr0 (.cons rr1 (.cons rr2 (.cons rr3 (.cons rr4 (.cons rr5 .nil))))))).mono fun e W' ⟨he, bel⟩ => ?_
  subst he
  exact ⟨_, rfl, _, _, _, [], _, [], hW', trodAll_mk1 (shut_bool Try.underlying4 _), (trodAll_cons_mk (Below.trod laidOut (by kernel_rfl) (of_decide_eq_true (by kernel_rfl)) h0 bel lt0) (trodAll_cons_mk (Below.trod laidOut (by kernel_rfl) (of_decide_eq_true (by kernel_rfl)) h1 bel lt1) (trodAll_cons_mk (Below.trod laidOut (by kernel_rfl) (of_decide_eq_true (by kernel_rfl)) h2 bel lt2) (trodAll_cons_mk (Below.trod laidOut (by kernel_rfl) (of_decide_eq_true (by kernel_rfl)) h3 bel lt3) (trodAll_cons_mk (Below.trod laidOut (by kernel_rfl) (of_decide_eq_true (by kernel_rfl)) h4 bel lt4) (trodAll_cons_mk (Below.trod laidOut (by kernel_rfl) (of_decide_eq_true (by kernel_rfl)) h5 bel lt5) trodAll_mk0)))))), rfl, bel.frame _, fun h => by cases h⟩

theorem over : Rows.scaleBackRow.holds Try.pinned (OpenSpec.ofChange Rows.scaleBackSpec) :=
  OpenClaim.holds_of_wide 10 Try.f10 rfl rfl rfl rfl rfl rfl rfl ⟨rfl, rfl, rfl, rfl, rfl⟩ rfl rfl rfl rfl rfl (by kernel_rfl) Try.func10 (by kernel_rfl)
    (of_decide_eq_true (by kernel_rfl)) (by unfold Func.isWrapper; first | (rw [if_pos (by decide +kernel)]; kernel_rfl) | (rw [if_neg (by decide +kernel)]; exact ⟨rfl, rfl⟩))
    (fun os started H enc _ => lifted os started H enc)

theorem proved : Rows.ScaleBackSaid := over
#print axioms proved
end Go.Proofs.Ytgheplondkoedaa.scaleBack
