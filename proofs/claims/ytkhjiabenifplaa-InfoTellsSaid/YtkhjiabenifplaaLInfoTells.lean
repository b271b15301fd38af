/-
  The law InfoTells: whether windows may be, how many there are, one's group, what may follow, and copies are the document's. No condition.
-/
import Derived.Test.YtkhjiabenifplaaRows
import Derived.WalkKit
import Derived.ProofKit
import Derived.OpenShut
import Derived.ShutString
import Derived.ChangeOld
import Derived.Below
import Derived.Test.YtkhjiabenifplaaWinft
import Derived.Test.YtkhjiabenifplaaWinfs
import Derived.Test.YtkhjiabenifplaaWf
namespace Go.Proofs.Ytkhjiabenifplaa.infoTells
open Go.ChangeShapes Go.WideShapes Go.ChangeAt Go.RowKit
open Go.ChangeMaps (open_string shut_string)
open Go.Proofs.Ytkhjiabenifplaa
set_option linter.unusedVariables false

theorem own : ownKnob Try.prog.godebug = none := by kernel_rfl
theorem laidOut : laidOutB Try.prog = true := by kernel_rfl

open Go.Pv
theorem main (p0 : PV) (s0 : ShC ty 6 3 [p0]) (q1 : List PV) (s1 : ShC ty 6 24 q1) (q2 : List PV) (s2 : ShC ty 6 24 q2) (p3 : PV) (s3 : ShC ty 6 3 [p3]) (p4 : PV) (s4 : ShC ty 6 5 [p4]) (p5 : PV) (s5 : ShC ty 6 5 [p5]) : PCall Try.prog 3 [p0, .agg q1, .agg q2, p3, p4, p5] (.bool true) := by
  obtain ⟨rate, e, _⟩ := sh_i64 s0
  cases e
  obtain ⟨s, sh, m, g, rfl, _⟩ := sh_info s1
  obtain ⟨s', sh', m', g', rfl, _⟩ := sh_info s2
  obtain ⟨w, e, _⟩ := sh_i64 s3
  cases e
  obtain ⟨a, e, h1⟩ := sh_u8 s4
  cases e
  obtain ⟨b, e, h2⟩ := sh_u8 s5
  cases e
  exact reedpipelaw10_InfoTells_ok rate w a b s sh m s' sh' m' g g' (by omega)

set_option maxRecDepth 100000 in
theorem lifted (os : Os) (started : os.Started) (H : Type) (enc : TypeId × Value → H) :
    ReturnsInHanded {} Try.checked os 3 .any (Rows.infoTellsSpec.pre6 enc Try.prog Try.f3 Rows.infoTellsRow.domain false) (Rows.infoTellsSpec.post enc Try.prog Try.f3 false true false false) := by
  refine returnsInHanded_of_change (C := Try.checked) own started (by kernel_rfl) Try.func3
    (ChangeSpec.witness6 (enc := enc) (C := Try.checked) false ⟨#[], #[.int .i64 0, .agg #[.int .u8 0, .int .u8 0, .int .i64 0, .slice none 0 0], .agg #[.int .u8 0, .int .u8 0, .int .i64 0, .slice none 0 0], .int .i64 0, .int .u8 0, .int .u8 0], []⟩ 8 (by kernel_rfl) (by kernel_rfl) (by kernel_rfl) (by kernel_rfl)) ?_
  intro W base args ds gs before hval0 hW hcnd _
  have hval : ∀ (j : Nat) t v, Try.f3.params[j]? = some t → args[j]? = some v → Value.okWide Try.prog W .any base t v := hval0
  have hW' := hW
  obtain ⟨p, q, hA0, hV, rfl, hfz, hnd⟩ := hW
  have hA : DataW.TrodAll enc Try.prog W 0 (fun _ => true) true Try.f3.params.toList args.toList ds p := hA0
  rw [Try.params3] at hA hval
  obtain ⟨v0, vs0, d0, ds0, pp0, qq0, hargs, rfl, rfl, h0, r0⟩ := trodAll_cons hA
  obtain ⟨v1, vs1, d1, ds1, pp1, qq1, rfl, rfl, rfl, h1, r1⟩ := trodAll_cons r0
  obtain ⟨v2, vs2, d2, ds2, pp2, qq2, rfl, rfl, rfl, h2, r2⟩ := trodAll_cons r1
  obtain ⟨v3, vs3, d3, ds3, pp3, qq3, rfl, rfl, rfl, h3, r3⟩ := trodAll_cons r2
  obtain ⟨v4, vs4, d4, ds4, pp4, qq4, rfl, rfl, rfl, h4, r4⟩ := trodAll_cons r3
  obtain ⟨v5, vs5, d5, ds5, pp5, qq5, rfl, rfl, rfl, h5, r5⟩ := trodAll_cons r4
  obtain ⟨rfl, rfl, rfl⟩ := trodAll_nil r5
  obtain rfl : args = #[v0, v1, v2, v3, v4, v5] := by cases args; simp_all
  obtain ⟨rfl, rfl⟩ := trodVars_none hV
  have lt0 : ∀ x ∈ pp0, x.block < W.heap.size := by obtain ⟨m, hm⟩ := h0; exact DataW.trod_lt m _ _ _ hm
  obtain ⟨ps0, s0, rr0⟩ := open_one ty_ok (n := 6) (t := 3) (ti := _) rfl rfl (by decide +kernel) (hval 0 3 v0 rfl rfl) h0
  have lt1 : ∀ x ∈ pp1, x.block < W.heap.size := by obtain ⟨m, hm⟩ := h1; exact DataW.trod_lt m _ _ _ hm
  obtain ⟨qs1, s1, rr1⟩ := open_agg ty_ok (n := 6) (t := 24) (ti := _) rfl rfl (by decide +kernel) (hval 1 24 v1 rfl rfl) h1
  have lt2 : ∀ x ∈ pp2, x.block < W.heap.size := by obtain ⟨m, hm⟩ := h2; exact DataW.trod_lt m _ _ _ hm
  obtain ⟨qs2, s2, rr2⟩ := open_agg ty_ok (n := 6) (t := 24) (ti := _) rfl rfl (by decide +kernel) (hval 2 24 v2 rfl rfl) h2
  have lt3 : ∀ x ∈ pp3, x.block < W.heap.size := by obtain ⟨m, hm⟩ := h3; exact DataW.trod_lt m _ _ _ hm
  obtain ⟨ps3, s3, rr3⟩ := open_one ty_ok (n := 6) (t := 3) (ti := _) rfl rfl (by decide +kernel) (hval 3 3 v3 rfl rfl) h3
  have lt4 : ∀ x ∈ pp4, x.block < W.heap.size := by obtain ⟨m, hm⟩ := h4; exact DataW.trod_lt m _ _ _ hm
  obtain ⟨ps4, s4, rr4⟩ := open_one ty_ok (n := 6) (t := 5) (ti := _) rfl rfl (by decide +kernel) (hval 4 5 v4 rfl rfl) h4
  have lt5 : ∀ x ∈ pp5, x.block < W.heap.size := by obtain ⟨m, hm⟩ := h5; exact DataW.trod_lt m _ _ _ hm
  obtain ⟨ps5, s5, rr5⟩ := open_one ty_ok (n := 6) (t := 5) (ti := _) rfl rfl (by decide +kernel) (hval 5 5 v5 rfl rfl) h5
  clear hA0 hval0
  refine (law_of (vs := [v0, v1, v2, v3, v4, v5]) (main ps0 s0 qs1 s1 qs2 s2 ps3 s3 ps4 s4 ps5 s5) (.cons rr0 (.cons rr1 (.cons rr2 (.cons rr3 (.cons rr4 (.cons rr5 .nil))))))).mono fun e W' ⟨he, bel⟩ => ?_
  subst he
  exact ⟨_, rfl, _, _, _, [], _, [], hW', trodAll_mk1 (shut_bool Try.underlying4 _), (trodAll_cons_mk (Below.trod laidOut (by kernel_rfl) (of_decide_eq_true (by kernel_rfl)) h0 bel lt0) (trodAll_cons_mk (Below.trod laidOut (by kernel_rfl) (of_decide_eq_true (by kernel_rfl)) h1 bel lt1) (trodAll_cons_mk (Below.trod laidOut (by kernel_rfl) (of_decide_eq_true (by kernel_rfl)) h2 bel lt2) (trodAll_cons_mk (Below.trod laidOut (by kernel_rfl) (of_decide_eq_true (by kernel_rfl)) h3 bel lt3) (trodAll_cons_mk (Below.trod laidOut (by kernel_rfl) (of_decide_eq_true (by kernel_rfl)) h4 bel lt4) (trodAll_cons_mk (Below.trod laidOut (by kernel_rfl) (of_decide_eq_true (by kernel_rfl)) h5 bel lt5) trodAll_mk0)))))), rfl, bel.frame _, fun h => by cases h⟩

theorem over : Rows.infoTellsRow.holds Try.pinned (OpenSpec.ofChange Rows.infoTellsSpec) :=
  OpenClaim.holds_of_wide 3 Try.f3 rfl rfl rfl rfl rfl rfl rfl ⟨rfl, rfl, rfl, rfl, rfl⟩ rfl rfl rfl rfl rfl (by kernel_rfl) Try.func3 (by kernel_rfl)
    (of_decide_eq_true (by kernel_rfl)) (by unfold Func.isWrapper; first | (rw [if_pos (by decide +kernel)]; kernel_rfl) | (rw [if_neg (by decide +kernel)]; exact ⟨rfl, rfl⟩))
    (fun os started H enc _ => lifted os started H enc)

theorem proved : Rows.InfoTellsSaid := over
#print axioms proved
end Go.Proofs.Ytkhjiabenifplaa.infoTells
