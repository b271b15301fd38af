/-
  The law CrcNames: the chapter's examples on sums of bits hold of the program. No condition.
-/
import Derived.Test.YtjfbgakebldjcaaRows
import Derived.WalkKit
import Derived.ProofKit
import Derived.OpenShut
import Derived.ShutString
import Derived.Test.YtjfbgakebldjcaaCrcL
namespace Go.Proofs.Ytjfbgakebldjcaa.crcNames
open Go.ChangeShapes Go.WideShapes Go.ChangeAt Go.RowKit
open Go.ChangeMaps (open_string shut_string)
open Go.Proofs.Ytjfbgakebldjcaa
set_option linter.unusedVariables false      -- a walk need not use every 'w<i>' (that an integer argument fits its kind)

theorem own : ownKnob Try.prog.godebug = none := by kernel_rfl

set_option maxHeartbeats 800000 in
theorem walk (w : World) :
    Calls Try.prog 3 #[] w fun e w' => e = .returned (.bool true) ∧ Below w.heap.size w w' := by
  have r1 := hid (crc_over 0 _ 1 1 [1] _ (Rd.lit w [1] 5 _ rfl rfl) (fun k => by rcases k with _ | k <;> simp) (by omega))
  go_enter Try.func3, Try.ntmps3
  go_wp2_with fail
  refine r1.out.mono ?_
  rintro e w1 ⟨rfl, hb1⟩
  rw [show overS 0 [1] = 32773 by decide +kernel, show overE 0 [1] = 0 by decide +kernel]
  clear r1
  have b1 := ((Below.refl w.heap.size w).alloc (Nat.le_refl _) (.cells #[.int .u8 1] 5)).trans (hb1.mono (by simp))
  go_wp2_with fail
  refine (crc_over_out 65536 _ _ _ [] _ (by omega)).mono ?_
  rintro e w2 ⟨rfl, hb2⟩
  rw [show overS 65536 [] = 0 by decide +kernel, show overE 65536 [] = 2 by decide +kernel]
  have b2 := b1.trans (hb2.mono b1.size)
  have r3 := hid (crc_of _ 1 1 [2] _ (Rd.lit w2 [2] 5 _ rfl rfl) (fun k => by rcases k with _ | k <;> simp) (by omega))
  go_wp2_with fail
  refine r3.out.mono ?_
  rintro e w3 ⟨rfl, hb3⟩
  rw [show overS 65535 [2] = 0 by decide +kernel, show overE 65535 [2] = 8 by decide +kernel]
  have b3 := (b2.alloc b2.size (.cells #[.int .u8 2] 5)).trans (hb3.mono (Nat.le_trans b2.size (by simp)))
  go_wp2_with fail
  refine (alive_any _).mono ?_
  rintro e w4 ⟨rfl, hb4⟩
  have b4 := b3.trans (hb4.mono b3.size)
  go_wp2
  go_ret
  exact ⟨rfl, b4⟩

/-! ### THE ROW's STEP: WRITTEN OUT: LEAVE IT -/
set_option maxRecDepth 100000 in
theorem lifted (os : Os) (started : os.Started) (H : Type) (enc : TypeId × Value → H) :
    ReturnsInHanded {} Try.checked os 3 .any (Rows.crcNamesSpec.pre6 enc Try.prog Try.f3 Rows.crcNamesRow.domain false) (Rows.crcNamesSpec.post enc Try.prog Try.f3 false true false false) := by
  refine returnsInHanded_of_change (C := Try.checked) own started (by kernel_rfl) Try.func3
    (ChangeSpec.witness6 (enc := enc) (C := Try.checked) false ⟨#[], #[], []⟩ 8 (by kernel_rfl) (by kernel_rfl) (by kernel_rfl) (by kernel_rfl)) ?_
  intro W base args ds gs before hval0 hW hcnd _
  have hval : ∀ (j : Nat) t v, Try.f3.params[j]? = some t → args[j]? = some v → Value.okWide Try.prog W .any base t v := hval0
  have hW' := hW
  obtain ⟨p, q, hA0, hV, rfl, hfz, hnd⟩ := hW
  have hA : DataW.TrodAll enc Try.prog W 0 (fun _ => true) true Try.f3.params.toList args.toList ds p := hA0
  rw [Try.params3] at hA hval
  obtain ⟨rfl, rfl, rfl⟩ := trodAll_none hA
  obtain ⟨rfl, rfl⟩ := trodVars_none hV
  clear hA0 hval0
  simp only [List.append_nil] at hW'
  refine (walk  W).mono fun e W' ⟨he, bel⟩ => ?_
  subst he
  exact ⟨_, rfl, _, _, _, [], [], [], hW', trodAll_mk1 (shut_bool Try.underlying4 _), trodAll_mk0, rfl, bel.frame _, fun h => by cases h⟩

theorem over : Rows.crcNamesRow.holds Try.pinned (OpenSpec.ofChange Rows.crcNamesSpec) :=
  OpenClaim.holds_of_wide 3 Try.f3 rfl rfl rfl rfl rfl rfl rfl ⟨rfl, rfl, rfl, rfl, rfl⟩ rfl rfl rfl rfl rfl (by kernel_rfl) Try.func3 (by kernel_rfl)
    (of_decide_eq_true (by kernel_rfl)) (by unfold Func.isWrapper; first | (rw [if_pos (by decide +kernel)]; kernel_rfl) | (rw [if_neg (by decide +kernel)]; exact ⟨rfl, rfl⟩))
    (fun os started H enc _ => lifted os started H enc)

/-- ████ THE STATEMENT ████ -/
theorem proved : Rows.CrcNamesSaid :=
  over
#print axioms proved
end Go.Proofs.Ytjfbgakebldjcaa.crcNames
