/-
  The law LoseNames: the errors have their numbers, and the chapter's examples are so. No condition.
-/
import Derived.Test.YtdcidpgabhbhbaaRows
import Derived.WalkKit
import Derived.ProofKit
import Derived.OpenShut
import Derived.ShutString
import Derived.Test.YtdcidpgabhbhbaaLoseL
namespace Go.Proofs.Ytdcidpgabhbhbaa.loseNames
open Go.ChangeShapes Go.WideShapes Go.ChangeAt Go.RowKit
open Go.ChangeMaps (open_string shut_string)
open Go.Proofs.Ytdcidpgabhbhbaa
set_option linter.unusedVariables false      -- a walk need not use every 'w<i>' (that an integer argument fits its kind)

theorem own : ownKnob Try.prog.godebug = none := by kernel_rfl

set_option maxHeartbeats 1600000 in
theorem walk  (w : World) :
    Calls Try.prog 9 #[] w fun e w' => e = .returned (.bool true) ∧ Below w.heap.size w w' := by
  obtain ⟨E1, L1, AL1⟩ := fill_all (a := 9) (b := 3) (at_ := 1) (many := 2) (x := 7) (by omega) rfl rfl (by decide)
  obtain ⟨E3, L3, AL3⟩ := fill_all (a := 9) (b := 3) (at_ := 3) (many := 3) (x := 1) (by omega) rfl rfl (by decide)
  obtain ⟨E4, L4, AL4⟩ := fill_all (a := 9) (b := 3) (at_ := 9) (many := 9) (x := 0) (by omega) rfl rfl (by decide)
  have E2 : loseE (fill 9) [] 1 1 = 0 := loseE_ok (by omega) (by rw [fill_len]; simp) (anyOdd_fill rfl) rfl
  have L2 : (loseR (fill 9) [] 1 1).length = 256 := by rw [loseR_ok E2]; exact loseL_len _ _ _ _
  have AL2 : allB (loseR (fill 9) [] 1 1) 4 = true := by
    rw [loseR_ok E2]
    refine allB_yes (loseL_len _ _ _ _) fun k hk => ?_
    rw [loseL_at hk, loseAt_fillN hk (by simp)]
    decide
  have E5 : loseE (fill 9) (fill 3) 0 1 = 2 := loseE_arg (by omega)
  have L5 : (loseR (fill 9) (fill 3) 0 1).length = 0 := by rw [loseR_no (by rw [E5]; decide)]; rfl
  have E1 := hid E1
  have E2 := hid E2
  have E3 := hid E3
  have E4 := hid E4
  have E5 := hid E5
  have L1 := hid L1
  have L2 := hid L2
  have L3 := hid L3
  have L4 := hid L4
  have L5 := hid L5
  have AL1 := hid AL1
  have AL2 := hid AL2
  have AL3 := hid AL3
  have AL4 := hid AL4
  have b1 := Below.refl w.heap.size w
  go_enter Try.func9, Try.ntmps9
  -- a: (9, 3, 1, 2)
  go_wp2_with fail
  refine (filled_any 9 w).mono ?_
  intro e w1 hr
  obtain ⟨A1, c1, rfl, _, hrd, _, hb2⟩ := hr.opens (n := 256) (fill_len _)
  have b2 := b1.trans (hb2.mono b1.size)
  clear hr hb2 b1
  go_wp2_with fail
  refine (filled_any 3 w1).mono ?_
  intro e w2 hr
  obtain ⟨A2, c2, rfl, _, hrd2, _, hb2⟩ := hr.opens (n := 256) (fill_len _)
  have hrd := hrd.below hb2 (Nat.le_refl _)
  have b3 := b2.trans (hb2.mono b2.size)
  clear hr hb2 b2
  go_wp2_with fail
  refine (lines_any A1 A2 256 c1 256 c2 _ _ 1 2 w2 hrd hrd2).mono ?_
  rw [E1.out]
  intro e w3 hr
  obtain ⟨Aa, ca, rfl, _, hra, _, hb2⟩ := hr.opens L1.out
  have b4 := b3.trans (hb2.mono b3.size)
  clear hr hb2 b3 hrd hrd2 E1 L1
  -- b: (9, nil, 1, 1)
  go_wp2_with fail
  refine (filled_any 9 w3).mono ?_
  intro e w4 hr
  obtain ⟨A3, c3, rfl, _, hrd, _, hb2⟩ := hr.opens (n := 256) (fill_len _)
  have hra := hra.below hb2 (Nat.le_refl _)
  have b5 := b4.trans (hb2.mono b4.size)
  clear hr hb2 b4
  go_wp2_with fail
  refine (lines_any A3 none 256 c3 0 0 _ _ 1 1 w4 hrd Rd.nil).mono ?_
  rw [E2.out]
  intro e w5 hr
  obtain ⟨Ab, cb, rfl, _, hrb, _, hb2⟩ := hr.opens L2.out
  have hra := hra.below hb2 (Nat.le_refl _)
  have b6 := b5.trans (hb2.mono b5.size)
  clear hr hb2 b5 hrd E2 L2
  -- c: (9, 3, 3, 3)
  go_wp2_with fail
  refine (filled_any 9 w5).mono ?_
  intro e w6 hr
  obtain ⟨A4, c4, rfl, _, hrd, _, hb2⟩ := hr.opens (n := 256) (fill_len _)
  have hra := hra.below hb2 (Nat.le_refl _)
  have hrb := hrb.below hb2 (Nat.le_refl _)
  have b7 := b6.trans (hb2.mono b6.size)
  clear hr hb2 b6
  go_wp2_with fail
  refine (filled_any 3 w6).mono ?_
  intro e w7 hr
  obtain ⟨A5, c5, rfl, _, hrd2, _, hb2⟩ := hr.opens (n := 256) (fill_len _)
  have hra := hra.below hb2 (Nat.le_refl _)
  have hrb := hrb.below hb2 (Nat.le_refl _)
  have hrd := hrd.below hb2 (Nat.le_refl _)
  have b8 := b7.trans (hb2.mono b7.size)
  clear hr hb2 b7
  go_wp2_with fail
  refine (lines_any A4 A5 256 c4 256 c5 _ _ 3 3 w7 hrd hrd2).mono ?_
  rw [E3.out]
  intro e w8 hr
  obtain ⟨Ac, cc, rfl, _, hrc, _, hb2⟩ := hr.opens L3.out
  have hra := hra.below hb2 (Nat.le_refl _)
  have hrb := hrb.below hb2 (Nat.le_refl _)
  have b9 := b8.trans (hb2.mono b8.size)
  clear hr hb2 b8 hrd hrd2 E3 L3
  -- d: (9, 3, 9, 9)
  go_wp2_with fail
  refine (filled_any 9 w8).mono ?_
  intro e w9 hr
  obtain ⟨A6, c6, rfl, _, hrd, _, hb2⟩ := hr.opens (n := 256) (fill_len _)
  have hra := hra.below hb2 (Nat.le_refl _)
  have hrb := hrb.below hb2 (Nat.le_refl _)
  have hrc := hrc.below hb2 (Nat.le_refl _)
  have b10 := b9.trans (hb2.mono b9.size)
  clear hr hb2 b9
  go_wp2_with fail
  refine (filled_any 3 w9).mono ?_
  intro e w10 hr
  obtain ⟨A7, c7, rfl, _, hrd2, _, hb2⟩ := hr.opens (n := 256) (fill_len _)
  have hra := hra.below hb2 (Nat.le_refl _)
  have hrb := hrb.below hb2 (Nat.le_refl _)
  have hrc := hrc.below hb2 (Nat.le_refl _)
  have hrd := hrd.below hb2 (Nat.le_refl _)
  have b11 := b10.trans (hb2.mono b10.size)
  clear hr hb2 b10
  go_wp2_with fail
  refine (lines_any A6 A7 256 c6 256 c7 _ _ 9 9 w10 hrd hrd2).mono ?_
  rw [E4.out]
  intro e w11 hr
  obtain ⟨Ad, cd, rfl, _, hrdd, _, hb2⟩ := hr.opens L4.out
  have hra := hra.below hb2 (Nat.le_refl _)
  have hrb := hrb.below hb2 (Nat.le_refl _)
  have hrc := hrc.below hb2 (Nat.le_refl _)
  have b12 := b11.trans (hb2.mono b11.size)
  clear hr hb2 b11 hrd hrd2 E4 L4
  -- Seq
  go_wp2_with fail
  refine (seq_any 2 w11 (by omega) (by omega)).mono ?_
  rintro e w' ⟨rfl, rfl⟩
  rw [show seqN 2 = 3 from rfl, show seqE 2 = 0 from rfl]
  go_wp2_with fail
  refine (seq_any 4 w11 (by omega) (by omega)).mono ?_
  rintro e w' ⟨rfl, rfl⟩
  rw [show seqN 4 = 0 from rfl, show seqE 4 = 2 from rfl]
  -- k
  go_wp2_with fail
  refine (filled_any 9 w11).mono ?_
  intro e w12 hr
  obtain ⟨A8, c8, rfl, _, hrd, _, hb2⟩ := hr.opens (n := 256) (fill_len _)
  have hra := hra.below hb2 (Nat.le_refl _)
  have hrb := hrb.below hb2 (Nat.le_refl _)
  have hrc := hrc.below hb2 (Nat.le_refl _)
  have hrdd := hrdd.below hb2 (Nat.le_refl _)
  have b13 := b12.trans (hb2.mono b12.size)
  clear hr hb2 b12
  go_wp2_with fail
  refine (filled_any 3 w12).mono ?_
  intro e w13 hr
  obtain ⟨A9, c9, rfl, _, hrd2, _, hb2⟩ := hr.opens (n := 256) (fill_len _)
  have hra := hra.below hb2 (Nat.le_refl _)
  have hrb := hrb.below hb2 (Nat.le_refl _)
  have hrc := hrc.below hb2 (Nat.le_refl _)
  have hrdd := hrdd.below hb2 (Nat.le_refl _)
  have hrd := hrd.below hb2 (Nat.le_refl _)
  have b14 := b13.trans (hb2.mono b13.size)
  clear hr hb2 b13
  go_wp2_with fail
  refine (lines_any A8 A9 256 c8 256 c9 _ _ 0 1 w13 hrd hrd2).mono ?_
  rw [E5.out]
  intro e w14 hr
  obtain ⟨Ae, ce, rfl, _, _, _, hb2⟩ := hr.opens L5.out
  have hra := hra.below hb2 (Nat.le_refl _)
  have hrb := hrb.below hb2 (Nat.le_refl _)
  have hrc := hrc.below hb2 (Nat.le_refl _)
  have hrdd := hrdd.below hb2 (Nat.le_refl _)
  have b15 := b14.trans (hb2.mono b14.size)
  clear hr hb2 b14 hrd hrd2 E5 L5
  -- alive and the tests
  go_wp2_with fail
  refine (alive_any w14).mono ?_
  rintro e w15 ⟨rfl, hb2⟩
  have hra := hra.below hb2 (Nat.le_refl _)
  have hrb := hrb.below hb2 (Nat.le_refl _)
  have hrc := hrc.below hb2 (Nat.le_refl _)
  have hrdd := hrdd.below hb2 (Nat.le_refl _)
  have b16 := b15.trans (hb2.mono b15.size)
  clear hb2 b15
  go_wp2_with fail
  refine (all_any Aa 256 ca _ 7 w15 hra (by omega)).mono ?_
  rintro e w' ⟨rfl, rfl⟩
  rw [AL1.out]
  go_wp2_with fail
  refine (all_any Ab 256 cb _ 4 w15 hrb (by omega)).mono ?_
  rintro e w' ⟨rfl, rfl⟩
  rw [AL2.out]
  go_wp2_with fail
  refine (all_any Ac 256 cc _ 1 w15 hrc (by omega)).mono ?_
  rintro e w' ⟨rfl, rfl⟩
  rw [AL3.out]
  go_wp2_with fail
  refine (all_any Ad 256 cd _ 0 w15 hrdd (by omega)).mono ?_
  rintro e w' ⟨rfl, rfl⟩
  rw [AL4.out]
  go_wp2
  go_ret
  exact ⟨rfl, b16⟩

/-! ### THE ROW's STEP: WRITTEN OUT: LEAVE IT -/
set_option maxRecDepth 100000 in
theorem lifted (os : Os) (started : os.Started) (H : Type) (enc : TypeId × Value → H) :
    ReturnsInHanded {} Try.checked os 9 .any (Rows.loseNamesSpec.pre6 enc Try.prog Try.f9 Rows.loseNamesRow.domain false) (Rows.loseNamesSpec.post enc Try.prog Try.f9 false true false false) := by
  refine returnsInHanded_of_change (C := Try.checked) own started (by kernel_rfl) Try.func9
    (ChangeSpec.witness6 (enc := enc) (C := Try.checked) false ⟨#[], #[], []⟩ 8 (by kernel_rfl) (by kernel_rfl) (by kernel_rfl) (by kernel_rfl)) ?_
  intro W base args ds gs before hval0 hW hcnd _
  have hval : ∀ (j : Nat) t v, Try.f9.params[j]? = some t → args[j]? = some v → Value.okWide Try.prog W .any base t v := hval0
  have hW' := hW
  obtain ⟨p, q, hA0, hV, rfl, hfz, hnd⟩ := hW
  have hA : DataW.TrodAll enc Try.prog W 0 (fun _ => true) true Try.f9.params.toList args.toList ds p := hA0
  rw [Try.params9] at hA hval
  obtain ⟨rfl, rfl, rfl⟩ := trodAll_none hA
  obtain ⟨rfl, rfl⟩ := trodVars_none hV
  clear hA0 hval0
  simp only [List.append_nil] at hW'
  refine (walk  W).mono fun e W' ⟨he, bel⟩ => ?_
  subst he
  exact ⟨_, rfl, _, _, _, [], [], [], hW', trodAll_mk1 (shut_bool Try.underlying4 _), trodAll_mk0, rfl, bel.frame _, fun h => by cases h⟩

theorem over : Rows.loseNamesRow.holds Try.pinned (OpenSpec.ofChange Rows.loseNamesSpec) :=
  OpenClaim.holds_of_wide 9 Try.f9 rfl rfl rfl rfl rfl rfl rfl ⟨rfl, rfl, rfl, rfl, rfl⟩ rfl rfl rfl rfl rfl (by kernel_rfl) Try.func9 (by kernel_rfl)
    (of_decide_eq_true (by kernel_rfl)) (by unfold Func.isWrapper; first | (rw [if_pos (by decide +kernel)]; kernel_rfl) | (rw [if_neg (by decide +kernel)]; exact ⟨rfl, rfl⟩))
    (fun os started H enc _ => lifted os started H enc)

/-- ████ THE STATEMENT ████ -/
theorem proved : Rows.LoseNamesSaid :=
  over
#print axioms proved
end Go.Proofs.Ytdcidpgabhbhbaa.loseNames
