/-
  The law LaneSame: whether two records are the same is the document's; a copy is the same, in new memory: when the copy's numbers are changed, the record stays as it was. No condition.
-/
import Derived.Test.YtmkgfgdipkagbaaRows
import Derived.WalkKit
import Derived.ProofKit
import Derived.OpenShut
import Derived.ShutString
import Derived.ChangeOld
import Derived.Below
import Derived.Test.YtmkgfgdipkagbaaLlan15
import Derived.Test.YtmkgfgdipkagbaaLlnf
import Derived.Test.YtmkgfgdipkagbaaWf
namespace Go.Proofs.Ytmkgfgdipkagbaa.laneSame
open Go.ChangeShapes Go.WideShapes Go.ChangeAt Go.RowKit
open Go.ChangeMaps (open_string shut_string)
open Go.Proofs.Ytmkgfgdipkagbaa
set_option linter.unusedVariables false

theorem own : ownKnob Try.prog.godebug = none := by kernel_rfl
theorem laidOut : laidOutB Try.prog = true := by kernel_rfl

open Go.Pv
theorem main (q0 : List PV) (s0 : ShC ty 6 29 q0) (q1 : List PV) (s1 : ShC ty 6 29 q1) : PCall Try.prog 3 [.agg q0, .agg q1] (.bool true) := by
  obtain ⟨ga, s, sh, m, g, se, st, tn, ln, rfl, _⟩ := sh_chan s0
  obtain ⟨ga2, s2, sj, m2, g2, se2, st2, tn2, ln2, rfl, _⟩ := sh_chan s1
  exact laneSame_ok ga s sh m g se st tn ln ga2 s2 sj m2 g2 se2 st2 tn2 ln2

set_option maxRecDepth 100000 in
theorem lifted (os : Os) (started : os.Started) (H : Type) (enc : TypeId × Value → H) :
    ReturnsInHanded {} Try.checked os 3 .any (Rows.laneSameSpec.pre6 enc Try.prog Try.f3 Rows.laneSameRow.domain false) (Rows.laneSameSpec.post enc Try.prog Try.f3 false true false false) := by
  refine returnsInHanded_of_change (C := Try.checked) own started (by kernel_rfl) Try.func3
    (ChangeSpec.witness6 (enc := enc) (C := Try.checked) false ⟨#[], #[.agg #[.int .i64 0, .int .u8 0, .int .u8 0, .int .i64 0, .slice none 0 0, .slice none 0 0, .slice none 0 0, .slice none 0 0, .slice none 0 0], .agg #[.int .i64 0, .int .u8 0, .int .u8 0, .int .i64 0, .slice none 0 0, .slice none 0 0, .slice none 0 0, .slice none 0 0, .slice none 0 0]], []⟩ 8 (by kernel_rfl) (by kernel_rfl) (by kernel_rfl) (by kernel_rfl)) ?_
  intro W base args ds gs before hval0 hW hcnd _
  have hval : ∀ (j : Nat) t v, Try.f3.params[j]? = some t → args[j]? = some v → Value.okWide Try.prog W .any base t v := hval0
  have hW' := hW
  obtain ⟨p, q, hA0, hV, rfl, hfz, hnd⟩ := hW
  have hA : DataW.TrodAll enc Try.prog W 0 (fun _ => true) true Try.f3.params.toList args.toList ds p := hA0
  rw [Try.params3] at hA hval
  obtain ⟨v0, vs0, d0, ds0, pp0, qq0, hargs, rfl, rfl, h0, r0⟩ := trodAll_cons hA
  obtain ⟨v1, vs1, d1, ds1, pp1, qq1, rfl, rfl, rfl, h1, r1⟩ := trodAll_cons r0
  obtain ⟨rfl, rfl, rfl⟩ := trodAll_nil r1
  obtain rfl : args = #[v0, v1] := by cases args; simp_all
  obtain ⟨rfl, rfl⟩ := trodVars_none hV
  have lt0 : ∀ x ∈ pp0, x.block < W.heap.size := by obtain ⟨m, hm⟩ := h0; exact DataW.trod_lt m _ _ _ hm
  obtain ⟨qs0, s0, rr0⟩ := open_agg ty_ok (n := 6) (t := 29) (ti := _) rfl rfl (by decide +kernel) (hval 0 29 v0 rfl rfl) h0
  have lt1 : ∀ x ∈ pp1, x.block < W.heap.size := by obtain ⟨m, hm⟩ := h1; exact DataW.trod_lt m _ _ _ hm
  obtain ⟨qs1, s1, rr1⟩ := open_agg ty_ok (n := 6) (t := 29) (ti := _) rfl rfl (by decide +kernel) (hval 1 29 v1 rfl rfl) h1
  clear hA0 hval0
  refine (law_of (vs := [v0, v1]) (main qs0 s0 qs1 s1) (.cons rr0 (.cons rr1 .nil))).mono fun e W' ⟨he, bel⟩ => ?_
  subst he
  exact ⟨_, rfl, _, _, _, [], _, [], hW', trodAll_mk1 (shut_bool Try.underlying4 _), (trodAll_cons_mk (Below.trod laidOut (by kernel_rfl) (of_decide_eq_true (by kernel_rfl)) h0 bel lt0) (trodAll_cons_mk (Below.trod laidOut (by kernel_rfl) (of_decide_eq_true (by kernel_rfl)) h1 bel lt1) trodAll_mk0)), rfl, bel.frame _, fun h => by cases h⟩

theorem over : Rows.laneSameRow.holds Try.pinned (OpenSpec.ofChange Rows.laneSameSpec) :=
  OpenClaim.holds_of_wide 3 Try.f3 rfl rfl rfl rfl rfl rfl rfl ⟨rfl, rfl, rfl, rfl, rfl⟩ rfl rfl rfl rfl rfl (by kernel_rfl) Try.func3 (by kernel_rfl)
    (of_decide_eq_true (by kernel_rfl)) (by unfold Func.isWrapper; first | (rw [if_pos (by decide +kernel)]; kernel_rfl) | (rw [if_neg (by decide +kernel)]; exact ⟨rfl, rfl⟩))
    (fun os started H enc _ => lifted os started H enc)

theorem proved : Rows.LaneSameSaid := over
#print axioms proved
end Go.Proofs.Ytmkgfgdipkagbaa.laneSame
