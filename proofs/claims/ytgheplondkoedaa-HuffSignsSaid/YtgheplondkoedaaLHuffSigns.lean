/-
  The law HuffSigns: values and those with all signs turned cost the same, by books whose entries have no signs, and fit the same books. No condition.
-/
import Derived.Test.YtgheplondkoedaaRows
import Derived.WalkKit
import Derived.ProofKit
import Derived.OpenShut
import Derived.ShutString
import Derived.ChangeOld
import Derived.Below
import Derived.Test.YtgheplondkoedaaHsg
import Derived.Test.YtgheplondkoedaaHbkf
import Derived.Test.YtgheplondkoedaaWf
namespace Go.Proofs.Ytgheplondkoedaa.huffSigns
open Go.ChangeShapes Go.WideShapes Go.ChangeAt Go.RowKit
open Go.ChangeMaps (open_string shut_string)
open Go.Proofs.Ytgheplondkoedaa
set_option linter.unusedVariables false

theorem own : ownKnob Try.prog.godebug = none := by kernel_rfl
theorem laidOut : laidOutB Try.prog = true := by kernel_rfl

open Go.Pv
theorem main (p0 : PV) (s0 : ShC ty 6 5 [p0]) (p1 : PV) (s1 : ShC ty 6 23 [p1]) : PCall Try.prog 7 [p0, p1] (.bool true) := by
  obtain ⟨x, e, h1, h2⟩ := sh_u8 s0
  cases e
  obtain ⟨vs, e, hv⟩ := sh_ints s1
  cases e
  obtain ⟨n, rfl⟩ := Int.eq_ofNat_of_zero_le h1
  by_cases hd : vs.length = bDim (n % 11 + 1)
  · by_cases hf : hFit (n % 11 + 1) vs = true
    · exact signs_fit n (by omega) vs hv _ rfl hd hf
    · exact signs_nofit n (by omega) vs hv _ rfl hd (by simpa using hf)
  · exact signs_many n (by omega) vs hv _ rfl hd

set_option maxRecDepth 100000 in
theorem lifted (os : Os) (started : os.Started) (H : Type) (enc : TypeId × Value → H) :
    ReturnsInHanded {} Try.checked os 7 .any (Rows.huffSignsSpec.pre6 enc Try.prog Try.f7 Rows.huffSignsRow.domain false) (Rows.huffSignsSpec.post enc Try.prog Try.f7 false true false false) := by
  refine returnsInHanded_of_change (C := Try.checked) own started (by kernel_rfl) Try.func7
    (ChangeSpec.witness6 (enc := enc) (C := Try.checked) false ⟨#[], #[.int .u8 0, .slice none 0 0], []⟩ 8 (by kernel_rfl) (by kernel_rfl) (by kernel_rfl) (by kernel_rfl)) ?_
  intro W base args ds gs before hval0 hW hcnd _
  have hval : ∀ (j : Nat) t v, Try.f7.params[j]? = some t → args[j]? = some v → Value.okWide Try.prog W .any base t v := hval0
  have hW' := hW
  obtain ⟨p, q, hA0, hV, rfl, hfz, hnd⟩ := hW
  have hA : DataW.TrodAll enc Try.prog W 0 (fun _ => true) true Try.f7.params.toList args.toList ds p := hA0
  rw [Try.params7] at hA hval
  obtain ⟨v0, vs0, d0, ds0, pp0, qq0, hargs, rfl, rfl, h0, r0⟩ := trodAll_cons hA
  obtain ⟨v1, vs1, d1, ds1, pp1, qq1, rfl, rfl, rfl, h1, r1⟩ := trodAll_cons r0
  obtain ⟨rfl, rfl, rfl⟩ := trodAll_nil r1
  obtain rfl : args = #[v0, v1] := by cases args; simp_all
  obtain ⟨rfl, rfl⟩ := trodVars_none hV
  have lt0 : ∀ x ∈ pp0, x.block < W.heap.size := by obtain ⟨m, hm⟩ := h0; exact DataW.trod_lt m _ _ _ hm
  obtain ⟨ps0, s0, rr0⟩ := open_one ty_ok (n := 6) (t := 5) (ti := _) rfl rfl (by decide +kernel) (hval 0 5 v0 rfl rfl) h0
  have lt1 : ∀ x ∈ pp1, x.block < W.heap.size := by obtain ⟨m, hm⟩ := h1; exact DataW.trod_lt m _ _ _ hm
  obtain ⟨ps1, s1, rr1⟩ := open_one ty_ok (n := 6) (t := 23) (ti := _) rfl rfl (by decide +kernel) (hval 1 23 v1 rfl rfl) h1
  clear hA0 hval0
  refine (law_of (vs := [v0, v1]) (main ps0 s0 ps1 s1) (.cons rr0 (.cons rr1 .nil))).mono fun e W' ⟨he, bel⟩ => ?_
  subst he
  exact ⟨_, rfl, _, _, _, [], _, [], hW', trodAll_mk1 (shut_bool Try.underlying4 _), (trodAll_cons_mk (Below.trod laidOut (by kernel_rfl) (of_decide_eq_true (by kernel_rfl)) h0 bel lt0) (trodAll_cons_mk (Below.trod laidOut (by kernel_rfl) (of_decide_eq_true (by kernel_rfl)) h1 bel lt1) trodAll_mk0)), rfl, bel.frame _, fun h => by cases h⟩

theorem over : Rows.huffSignsRow.holds Try.pinned (OpenSpec.ofChange Rows.huffSignsSpec) :=
  OpenClaim.holds_of_wide 7 Try.f7 rfl rfl rfl rfl rfl rfl rfl ⟨rfl, rfl, rfl, rfl, rfl⟩ rfl rfl rfl rfl rfl (by kernel_rfl) Try.func7 (by kernel_rfl)
    (of_decide_eq_true (by kernel_rfl)) (by unfold Func.isWrapper; first | (rw [if_pos (by decide +kernel)]; kernel_rfl) | (rw [if_neg (by decide +kernel)]; exact ⟨rfl, rfl⟩))
    (fun os started H enc _ => lifted os started H enc)

theorem proved : Rows.HuffSignsSaid := over
#print axioms proved
end Go.Proofs.Ytgheplondkoedaa.huffSigns
