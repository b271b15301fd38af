/-
  The law LoseFollows: a lost frame's sequence may follow, and long ones may follow it; any sequence. No condition.
-/
import Derived.Test.YtdcidpgabhbhbaaRows
import Derived.WalkKit
import Derived.ProofKit
import Derived.OpenShut
import Derived.ShutString
import Derived.Test.YtdcidpgabhbhbaaLoseL
namespace Go.Proofs.Ytdcidpgabhbhbaa.loseFollows
open Go.ChangeShapes Go.WideShapes Go.ChangeAt Go.RowKit
open Go.ChangeMaps (open_string shut_string)
open Go.Proofs.Ytdcidpgabhbhbaa
set_option linter.unusedVariables false      -- a walk need not use every 'w<i>' (that an integer argument fits its kind)

theorem own : ownKnob Try.prog.godebug = none := by kernel_rfl

set_option maxHeartbeats 800000 in
theorem walk (a0 : Int) (w0 : (Lit.int .u8 a0).wf = true) (w : World) :
    Calls Try.prog 11 #[.int .u8 a0] w fun e w' => e = .returned (.bool true) ∧ Below w.heap.size w w' := by
  have hb : 0 ≤ a0 ∧ a0 ≤ 255 := by
    have := In.of_wf_u8 (xs := [a0]) (by intro n hn; rw [List.mem_singleton] at hn; rw [hn]; exact w0) a0 (List.mem_singleton.2 rfl)
    exact this
  obtain ⟨h0, h1⟩ := hb
  clear w0
  have H0 := hid (alive_any w)
  by_cases hbig : 3 < a0
  · have e1 := hid (show seqN a0 = 0 by unfold seqN; rw [if_pos hbig])
    have e2 := hid (show seqE a0 = 2 by unfold seqE; rw [if_pos hbig])
    go_enter Try.func11, Try.ntmps11
    go_wp2_with fail
    refine H0.out.mono ?_
    rintro e w1 ⟨rfl, b1⟩
    go_wp2_with fail
    refine (seq_any a0 w1 h0 h1).mono ?_
    rintro e w2 ⟨rfl, rfl⟩
    rw [e1.out, e2.out]
    go_wp2
    go_ret
    exact ⟨rfl, b1⟩
  · rcases (show a0 = 0 ∨ a0 = 1 ∨ a0 = 2 ∨ a0 = 3 by omega) with rfl | rfl | rfl | rfl
    all_goals
      go_enter Try.func11, Try.ntmps11
      go_wp2_with fail
      refine H0.out.mono ?_
      rintro e w1 ⟨rfl, b1⟩
      clear H0
      go_wp2_with fail
      refine (seq_any _ w1 h0 h1).mono ?_
      rintro e w2 ⟨rfl, rfl⟩
      first
      | rw [show seqN 0 = 0 from rfl, show seqE 0 = 0 from rfl]
      | rw [show seqN 1 = 3 from rfl, show seqE 1 = 0 from rfl]
      | rw [show seqN 2 = 3 from rfl, show seqE 2 = 0 from rfl]
      | rw [show seqN 3 = 0 from rfl, show seqE 3 = 0 from rfl]
      go_wp2_with fail
      refine (seq_any _ w1 (by omega) (by omega)).mono ?_
      rintro e w2 ⟨rfl, rfl⟩
      first
      | rw [show seqN 0 = 0 from rfl, show seqE 0 = 0 from rfl]
      | rw [show seqN 3 = 0 from rfl, show seqE 3 = 0 from rfl]
      go_wp2
      go_ret
      exact ⟨rfl, b1⟩

/-! ### THE ROW's STEP: WRITTEN OUT: LEAVE IT -/
set_option maxRecDepth 100000 in
theorem lifted (os : Os) (started : os.Started) (H : Type) (enc : TypeId × Value → H) :
    ReturnsInHanded {} Try.checked os 11 .any (Rows.loseFollowsSpec.pre6 enc Try.prog Try.f11 Rows.loseFollowsRow.domain false) (Rows.loseFollowsSpec.post enc Try.prog Try.f11 false true false false) := by
  refine returnsInHanded_of_change (C := Try.checked) own started (by kernel_rfl) Try.func11
    (ChangeSpec.witness6 (enc := enc) (C := Try.checked) false ⟨#[], #[.int .u8 0], []⟩ 8 (by kernel_rfl) (by kernel_rfl) (by kernel_rfl) (by kernel_rfl)) ?_
  intro W base args ds gs before hval0 hW hcnd _
  have hval : ∀ (j : Nat) t v, Try.f11.params[j]? = some t → args[j]? = some v → Value.okWide Try.prog W .any base t v := hval0
  have hW' := hW
  obtain ⟨p, q, hA0, hV, rfl, hfz, hnd⟩ := hW
  have hA : DataW.TrodAll enc Try.prog W 0 (fun _ => true) true Try.f11.params.toList args.toList ds p := hA0
  rw [Try.params11] at hA hval
  obtain ⟨v0, vs0, d0, ds0, p0, q0, hargs, rfl, rfl, h0, r0⟩ := trodAll_cons hA
  obtain ⟨rfl, rfl, rfl⟩ := trodAll_nil r0
  obtain rfl : args = #[v0] := by cases args; simp_all
  obtain ⟨rfl, rfl⟩ := trodVars_none hV
  obtain ⟨a0, rfl, rfl, rfl, w0⟩ := open_int Try.underlying5 (hval 0 5 v0 rfl rfl) h0
  clear hA0 hval0
  simp only [List.append_nil] at hW'
  refine (walk a0 w0 W).mono fun e W' ⟨he, bel⟩ => ?_
  subst he
  exact ⟨_, rfl, _, _, _, [], [], [], hW', trodAll_mk1 (shut_bool Try.underlying4 _), (trodAll_cons_mk (shut_int Try.underlying5 w0) trodAll_mk0), rfl, bel.frame _, fun h => by cases h⟩

theorem over : Rows.loseFollowsRow.holds Try.pinned (OpenSpec.ofChange Rows.loseFollowsSpec) :=
  OpenClaim.holds_of_wide 11 Try.f11 rfl rfl rfl rfl rfl rfl rfl ⟨rfl, rfl, rfl, rfl, rfl⟩ rfl rfl rfl rfl rfl (by kernel_rfl) Try.func11 (by kernel_rfl)
    (of_decide_eq_true (by kernel_rfl)) (by unfold Func.isWrapper; first | (rw [if_pos (by decide +kernel)]; kernel_rfl) | (rw [if_neg (by decide +kernel)]; exact ⟨rfl, rfl⟩))
    (fun os started H enc _ => lifted os started H enc)

/-- ████ THE STATEMENT ████ -/
theorem proved : Rows.LoseFollowsSaid :=
  over
#print axioms proved
end Go.Proofs.Ytdcidpgabhbhbaa.loseFollows
