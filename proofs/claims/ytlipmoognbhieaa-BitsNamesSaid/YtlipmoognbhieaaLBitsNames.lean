/-
  The law BitsNames: the limits' and errors' numbers, and the chapter's examples, hold of the program. No condition.
-/
import Derived.Test.YtlipmoognbhieaaRows
import Derived.WalkKit
import Derived.ProofKit
import Derived.OpenShut
import Derived.ShutString
import Derived.Test.YtlipmoognbhieaaPackL
namespace Go.Proofs.Ytlipmoognbhieaa.bitsNames
open Go.ChangeShapes Go.WideShapes Go.ChangeAt Go.RowKit
open Go.ChangeMaps (open_string shut_string)
open Go.Proofs.Ytlipmoognbhieaa
set_option linter.unusedVariables false      -- a walk need not use every 'w<i>' (that an integer argument fits its kind)

theorem own : ownKnob Try.prog.godebug = none := by kernel_rfl

set_option maxHeartbeats 1600000 in
theorem walk (w : World) :
    Calls Try.prog 7 #[] w fun e w' => e = .returned (.bool true) ∧ Below w.heap.size w w' := by
  have r1 := hid (put_any none 0 0 [] 4 2 w Rd.nil (by omega) (fun _ => rfl) (by omega))
  rw [show putL [] 4 2 = [] by decide +kernel, show putE 4 2 = 2 by decide +kernel] at r1
  go_enter Try.func7, Try.ntmps7
  go_wp2_with fail
  refine r1.out.mono ?_
  intro e w1 hr
  obtain ⟨A1, c1, rfl, _, _, _, b1⟩ := hr.opens (n := 0) rfl
  clear r1 hr
  have r2 := hid (get_any _ 5 5 [1, 0, 1, 0, 1] 2 4 _ (Rd.lit w1 [1, 0, 1, 0, 1] 5 #[.int .u8 1, .int .u8 0, .int .u8 1, .int .u8 0, .int .u8 1] rfl rfl) (by omega) (pos_lit (by decide)) (by omega))
  rw [show getN [1, 0, 1, 0, 1] 2 4 = 0 by decide +kernel, show getP [1, 0, 1, 0, 1] 2 4 = 0 by decide +kernel, show getE [1, 0, 1, 0, 1] 2 4 = 5 by decide +kernel] at r2
  have b2 := b1.alloc b1.size (.cells #[.int .u8 1, .int .u8 0, .int .u8 1, .int .u8 0, .int .u8 1] 5)
  go_wp2_with fail
  refine r2.out.mono ?_
  rintro e w2 ⟨rfl, rfl⟩
  clear r2
  generalize w1.alloc (.cells #[.int .u8 1, .int .u8 0, .int .u8 1, .int .u8 0, .int .u8 1] 5) = w2 at *
  have r3 := hid (get_any _ 5 5 [1, 0, 1, 0, 1] 6 0 _ (Rd.lit w2 [1, 0, 1, 0, 1] 5 #[.int .u8 1, .int .u8 0, .int .u8 1, .int .u8 0, .int .u8 1] rfl rfl) (by omega) (pos_lit (by decide)) (by omega))
  rw [show getN [1, 0, 1, 0, 1] 6 0 = 0 by decide +kernel, show getP [1, 0, 1, 0, 1] 6 0 = 0 by decide +kernel, show getE [1, 0, 1, 0, 1] 6 0 = 2 by decide +kernel] at r3
  have b3 := b2.alloc b2.size (.cells #[.int .u8 1, .int .u8 0, .int .u8 1, .int .u8 0, .int .u8 1] 5)
  go_wp2_with fail
  refine r3.out.mono ?_
  rintro e w3 ⟨rfl, rfl⟩
  clear r3
  generalize w2.alloc (.cells #[.int .u8 1, .int .u8 0, .int .u8 1, .int .u8 0, .int .u8 1] 5) = w3 at *
  have r4 := hid (pack_any _ 3 3 [1, 0, 1] _ (Rd.lit w3 [1, 0, 1] 5 #[.int .u8 1, .int .u8 0, .int .u8 1] rfl rfl) (by omega) (pos_lit (by decide)))
  rw [show packR [1, 0, 1] = [160] by decide +kernel, show packE [1, 0, 1] = 0 by decide +kernel] at r4
  have b4 := b3.alloc b3.size (.cells #[.int .u8 1, .int .u8 0, .int .u8 1] 5)
  go_wp2_with fail
  refine r4.out.mono ?_
  intro e w5 hr
  obtain ⟨A5, c5, rfl, _, hrd5, _, hb5⟩ := hr.opens (n := 1) rfl
  have b5 := b4.trans (hb5.mono b4.size)
  clear r4 hr hb5 b4
  have r5 := hid (unpack_any _ 1 1 [160] _ (Rd.lit w5 [160] 5 #[.int .u8 160] rfl rfl) (pos_lit (by decide)))
  rw [show unpackR [160] = [1, 0, 1, 0, 0, 0, 0, 0] by decide +kernel, show unpackE [160] = 0 by decide +kernel] at r5
  have b6 := b5.alloc b5.size (.cells #[.int .u8 160] 5)
  have hrd5 := hrd5.below ((Below.refl w5.heap.size w5).alloc (Nat.le_refl _) (.cells #[.int .u8 160] 5)) (Nat.le_refl _)
  go_wp2_with fail
  refine r5.out.mono ?_
  intro e w7 hr
  obtain ⟨A7, c7, rfl, _, hrd7, _, hb7⟩ := hr.opens (n := 8) rfl
  have b7 := b6.trans (hb7.mono b6.size)
  have hrd5 := hrd5.below hb7 (Nat.le_refl _)
  clear r5 hr hb7 b6
  have r6 := hid (pack_any _ 1 1 [2] _ (Rd.lit w7 [2] 5 #[.int .u8 2] rfl rfl) (by omega) (pos_lit (by decide)))
  rw [show packR [2] = [] by decide +kernel, show packE [2] = 8 by decide +kernel] at r6
  have b8 := b7.alloc b7.size (.cells #[.int .u8 2] 5)
  have bk := (Below.refl w7.heap.size w7).alloc (Nat.le_refl _) (.cells #[.int .u8 2] 5)
  have hrd5 := hrd5.below bk (Nat.le_refl _)
  have hrd7 := hrd7.below bk (Nat.le_refl _)
  go_wp2_with fail
  refine r6.out.mono ?_
  intro e w9 hr
  obtain ⟨A9, c9, rfl, _, _, _, hb9⟩ := hr.opens (n := 0) rfl
  have b9 := b8.trans (hb9.mono b8.size)
  have hrd5 := hrd5.below hb9 (Nat.le_refl _)
  have hrd7 := hrd7.below hb9 (Nat.le_refl _)
  clear r6 hr hb9 b8 bk
  go_wp2_with fail
  refine (alive_any w9).mono ?_
  rintro e w10 ⟨rfl, hb10⟩
  have b10 := b9.trans (hb10.mono b9.size)
  have q5 := run_bytes_str (P := Try.prog) Try.underlying22 Try.underlying5 Try.underlying9 (hrd5.below hb10 (Nat.le_refl _)) c5
  have q7 := run_bytes_str (P := Try.prog) Try.underlying22 Try.underlying5 Try.underlying9 (hrd7.below hb10 (Nat.le_refl _)) c7
  rw [show bstr [160] = ⟨#[160]⟩ by decide +kernel] at q5
  rw [show bstr [1, 0, 1, 0, 0, 0, 0, 0] = ⟨#[1, 0, 1, 0, 0, 0, 0, 0]⟩ by decide +kernel] at q7
  clear hrd5 hrd7 hb10
  go_wp2
  go_ret
  exact ⟨rfl, b10⟩

/-! ### THE ROW's STEP: WRITTEN OUT: LEAVE IT -/
set_option maxRecDepth 100000 in
theorem lifted (os : Os) (started : os.Started) (H : Type) (enc : TypeId × Value → H) :
    ReturnsInHanded {} Try.checked os 7 .any (Rows.bitsNamesSpec.pre6 enc Try.prog Try.f7 Rows.bitsNamesRow.domain false) (Rows.bitsNamesSpec.post enc Try.prog Try.f7 false true false false) := by
  refine returnsInHanded_of_change (C := Try.checked) own started (by kernel_rfl) Try.func7
    (ChangeSpec.witness6 (enc := enc) (C := Try.checked) false ⟨#[], #[], []⟩ 8 (by kernel_rfl) (by kernel_rfl) (by kernel_rfl) (by kernel_rfl)) ?_
  intro W base args ds gs before hval0 hW hcnd _
  have hval : ∀ (j : Nat) t v, Try.f7.params[j]? = some t → args[j]? = some v → Value.okWide Try.prog W .any base t v := hval0
  have hW' := hW
  obtain ⟨p, q, hA0, hV, rfl, hfz, hnd⟩ := hW
  have hA : DataW.TrodAll enc Try.prog W 0 (fun _ => true) true Try.f7.params.toList args.toList ds p := hA0
  rw [Try.params7] at hA hval
  obtain ⟨rfl, rfl, rfl⟩ := trodAll_none hA
  obtain ⟨rfl, rfl⟩ := trodVars_none hV
  clear hA0 hval0
  simp only [List.append_nil] at hW'
  refine (walk  W).mono fun e W' ⟨he, bel⟩ => ?_
  subst he
  exact ⟨_, rfl, _, _, _, [], [], [], hW', trodAll_mk1 (shut_bool Try.underlying4 _), trodAll_mk0, rfl, bel.frame _, fun h => by cases h⟩

theorem over : Rows.bitsNamesRow.holds Try.pinned (OpenSpec.ofChange Rows.bitsNamesSpec) :=
  OpenClaim.holds_of_wide 7 Try.f7 rfl rfl rfl rfl rfl rfl rfl ⟨rfl, rfl, rfl, rfl, rfl⟩ rfl rfl rfl rfl rfl (by kernel_rfl) Try.func7 (by kernel_rfl)
    (of_decide_eq_true (by kernel_rfl)) (by unfold Func.isWrapper; first | (rw [if_pos (by decide +kernel)]; kernel_rfl) | (rw [if_neg (by decide +kernel)]; exact ⟨rfl, rfl⟩))
    (fun os started H enc _ => lifted os started H enc)

/-- ████ THE STATEMENT ████ -/
theorem proved : Rows.BitsNamesSaid :=
  over
#print axioms proved
end Go.Proofs.Ytlipmoognbhieaa.bitsNames
