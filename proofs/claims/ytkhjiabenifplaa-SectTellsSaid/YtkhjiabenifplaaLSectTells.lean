/-
  The law SectTells: whether sections may be, their bits, and the sections of some, or the errors, are the document's. No condition.
-/
import Derived.Test.YtkhjiabenifplaaRows
import Derived.WalkKit
import Derived.ProofKit
import Derived.OpenShut
import Derived.ShutString
import Derived.ChangeOld
import Derived.Below
import Derived.Test.YtkhjiabenifplaaWsct5
import Derived.Test.YtkhjiabenifplaaWsctf
import Derived.Test.YtkhjiabenifplaaWf
namespace Go.Proofs.Ytkhjiabenifplaa.sectTells
open Go.ChangeShapes Go.WideShapes Go.ChangeAt Go.RowKit
open Go.ChangeMaps (open_string shut_string)
open Go.Proofs.Ytkhjiabenifplaa
set_option linter.unusedVariables false

theorem own : ownKnob Try.prog.godebug = none := by kernel_rfl
theorem laidOut : laidOutB Try.prog = true := by kernel_rfl

open Go.Pv
theorem main (p0 : PV) (s0 : ShC ty 6 44 [p0]) (p1 : PV) (s1 : ShC ty 6 3 [p1]) (q2 : List PV) (s2 : ShC ty 6 24 q2) (p3 : PV) (s3 : ShC ty 6 42 [p3]) : PCall Try.prog 11 [p0, p1, .agg q2, p3] (.bool true) := by
  obtain ⟨bs, e, h4⟩ := sh_bytes s0
  cases e
  obtain ⟨a, e, h5⟩ := sh_i64 s1
  cases e
  obtain ⟨s, sh, m, g, rfl, _⟩ := sh_info s2
  obtain ⟨l, e, _⟩ := sh_se s3
  cases e
  exact sectTells_ok bs h4 a h5 s sh m g l

set_option maxRecDepth 100000 in
theorem lifted (os : Os) (started : os.Started) (H : Type) (enc : TypeId × Value → H) :
    ReturnsInHanded {} Try.checked os 11 .any (Rows.sectTellsSpec.pre6 enc Try.prog Try.f11 Rows.sectTellsRow.domain false) (Rows.sectTellsSpec.post enc Try.prog Try.f11 false true false false) := by
  refine returnsInHanded_of_change (C := Try.checked) own started (by kernel_rfl) Try.func11
    (ChangeSpec.witness6 (enc := enc) (C := Try.checked) false ⟨#[], #[.slice none 0 0, .int .i64 0, .agg #[.int .u8 0, .int .u8 0, .int .i64 0, .slice none 0 0], .slice none 0 0], []⟩ 8 (by kernel_rfl) (by kernel_rfl) (by kernel_rfl) (by kernel_rfl)) ?_
  intro W base args ds gs before hval0 hW hcnd _
  have hval : ∀ (j : Nat) t v, Try.f11.params[j]? = some t → args[j]? = some v → Value.okWide Try.prog W .any base t v := hval0
  have hW' := hW
  obtain ⟨p, q, hA0, hV, rfl, hfz, hnd⟩ := hW
  have hA : DataW.TrodAll enc Try.prog W 0 (fun _ => true) true Try.f11.params.toList args.toList ds p := hA0
  rw [Try.params11] at hA hval
  obtain ⟨v0, vs0, d0, ds0, pp0, qq0, hargs, rfl, rfl, h0, r0⟩ := trodAll_cons hA
  obtain ⟨v1, vs1, d1, ds1, pp1, qq1, rfl, rfl, rfl, h1, r1⟩ := trodAll_cons r0
  obtain ⟨v2, vs2, d2, ds2, pp2, qq2, rfl, rfl, rfl, h2, r2⟩ := trodAll_cons r1
  obtain ⟨v3, vs3, d3, ds3, pp3, qq3, rfl, rfl, rfl, h3, r3⟩ := trodAll_cons r2
  obtain ⟨rfl, rfl, rfl⟩ := trodAll_nil r3
  obtain rfl : args = #[v0, v1, v2, v3] := by cases args; simp_all
  obtain ⟨rfl, rfl⟩ := trodVars_none hV
  have lt0 : ∀ x ∈ pp0, x.block < W.heap.size := by obtain ⟨m, hm⟩ := h0; exact DataW.trod_lt m _ _ _ hm
  obtain ⟨ps0, s0, rr0⟩ := open_one ty_ok (n := 6) (t := 44) (ti := _) rfl rfl (by decide +kernel) (hval 0 44 v0 rfl rfl) h0
  have lt1 : ∀ x ∈ pp1, x.block < W.heap.size := by obtain ⟨m, hm⟩ := h1; exact DataW.trod_lt m _ _ _ hm
  obtain ⟨ps1, s1, rr1⟩ := open_one ty_ok (n := 6) (t := 3) (ti := _) rfl rfl (by decide +kernel) (hval 1 3 v1 rfl rfl) h1
  have lt2 : ∀ x ∈ pp2, x.block < W.heap.size := by obtain ⟨m, hm⟩ := h2; exact DataW.trod_lt m _ _ _ hm
  obtain ⟨qs2, s2, rr2⟩ := open_agg ty_ok (n := 6) (t := 24) (ti := _) rfl rfl (by decide +kernel) (hval 2 24 v2 rfl rfl) h2
  have lt3 : ∀ x ∈ pp3, x.block < W.heap.size := by obtain ⟨m, hm⟩ := h3; exact DataW.trod_lt m _ _ _ hm
  obtain ⟨ps3, s3, rr3⟩ := open_one ty_ok (n := 6) (t := 42) (ti := _) rfl rfl (by decide +kernel) (hval 3 42 v3 rfl rfl) h3
  clear hA0 hval0
  refine (law_of (vs := [v0, v1, v2, v3]) (main ps0 s0 ps1 s1 qs2 s2 ps3 s3) (.cons rr0 (.cons rr1 (.cons rr2 (.cons rr3 .nil))))).mono fun e W' ⟨he, bel⟩ => ?_
  subst he
  exact ⟨_, rfl, _, _, _, [], _, [], hW', trodAll_mk1 (shut_bool Try.underlying4 _), (trodAll_cons_mk (Below.trod laidOut (by kernel_rfl) (of_decide_eq_true (by kernel_rfl)) h0 bel lt0) (trodAll_cons_mk (Below.trod laidOut (by kernel_rfl) (of_decide_eq_true (by kernel_rfl)) h1 bel lt1) (trodAll_cons_mk (Below.trod laidOut (by kernel_rfl) (of_decide_eq_true (by kernel_rfl)) h2 bel lt2) (trodAll_cons_mk (Below.trod laidOut (by kernel_rfl) (of_decide_eq_true (by kernel_rfl)) h3 bel lt3) trodAll_mk0)))), rfl, bel.frame _, fun h => by cases h⟩

theorem over : Rows.sectTellsRow.holds Try.pinned (OpenSpec.ofChange Rows.sectTellsSpec) :=
  OpenClaim.holds_of_wide 11 Try.f11 rfl rfl rfl rfl rfl rfl rfl ⟨rfl, rfl, rfl, rfl, rfl⟩ rfl rfl rfl rfl rfl (by kernel_rfl) Try.func11 (by kernel_rfl)
    (of_decide_eq_true (by kernel_rfl)) (by unfold Func.isWrapper; first | (rw [if_pos (by decide +kernel)]; kernel_rfl) | (rw [if_neg (by decide +kernel)]; exact ⟨rfl, rfl⟩))
    (fun os started H enc _ => lifted os started H enc)

theorem proved : Rows.SectTellsSaid := over
#print axioms proved
end Go.Proofs.Ytkhjiabenifplaa.sectTells
