/-
  The law BitsWhole: what is unpacked is packed as it was, and what is packed is unpacked as it was, but for at most seven noughts behind; any bytes (at most 10000, the law's own bound). No condition.
-/
import Derived.Test.YtlipmoognbhieaaRows
import Derived.WalkKit
import Derived.ProofKit
import Derived.OpenShut
import Derived.ShutString
import Derived.ChangeOld
import Derived.Below
import Derived.Test.YtlipmoognbhieaaPackL
import Derived.BigQuiet
import Derived.Deep.QuietTactic
namespace Go.Proofs.Ytlipmoognbhieaa.bitsWhole
open Go.ChangeShapes Go.WideShapes Go.ChangeAt Go.RowKit
open Go.ChangeMaps (open_string shut_string)
open Go.Proofs.Ytlipmoognbhieaa
set_option linter.unusedVariables false

theorem own : ownKnob Try.prog.godebug = none := by kernel_rfl
theorem laidOut : laidOutB Try.prog = true := by kernel_rfl

set_option maxHeartbeats 1600000 in
theorem walk (a0 : Option Addr) (len0 cap0 : Nat) (z0 : List Int) (w : World) (w0 : IsRow .u8 w a0 len0 cap0 z0) :
    Calls Try.prog 8 #[.slice a0 len0 cap0] w fun e w' => e = .returned (.bool true) ∧ Below w.heap.size w w' := by
  have Hx := hid w0.rd
  have Hp := hid (fun k => (In.of_wf_u8 w0.wf).at_ (by omega) (by omega) k)
  have hm := w0.len.1
  unfold maxLen at hm
  generalize z0.take len0 = xs at Hx Hp
  clear w0
  have H0 := hid (alive_any w)
  by_cases hbig : 10000 < len0
  · go_enter Try.func8, Try.ntmps8
    go_wp2_with fail
    refine H0.out.mono ?_
    rintro e w1 ⟨rfl, hb⟩
    go_wp2
    go_ret
    exact ⟨rfl, hb⟩
  have Hl := hid Hx.out.1
  have UE := hid (show unpackE xs = 0 by unfold unpackE; rw [if_neg (by rw [Hl.out]; omega)])
  have UR := hid (show unpackR xs = openL xs by unfold unpackR; rw [if_neg (by rw [Hl.out]; omega)])
  have ol := openL_len xs
  rw [Hl.out] at ol
  have OL := hid ol
  have pe := packE_ok (xs := openL xs) (by omega) (openL_le1 xs)
  have PE := hid pe
  have PR := hid ((packR_ok pe).trans (pack_open xs Hp.out))
  have Hop := hid (fun k => In.at_ (lo := 0) (hi := 255) (xs := openL xs) (fun y hy => by
    obtain ⟨x, _, h⟩ := List.mem_flatMap.1 hy
    rcases bitsOf_bit _ _ y h with rfl | rfl <;> omega) (by omega) (by omega) k)
  clear ol pe
  go_enter Try.func8, Try.ntmps8
  go_wp2_with fail
  refine H0.out.mono ?_
  rintro e w1 ⟨rfl, b1⟩
  clear H0
  have r1 := hid (unpack_any a0 len0 cap0 xs w1 (Hx.out.below b1 (Nat.le_refl _)) Hp.out)
  go_wp2_with fail
  refine r1.out.mono ?_
  rw [UR.out, UE.out]
  intro e w2 hr
  obtain ⟨A2, c2, rfl, _, hrd2, _, hb2⟩ := hr.opens OL.out
  have b2 := b1.trans (hb2.mono b1.size)
  clear r1 hr hb2 b1
  have r2 := hid (pack_any A2 _ c2 (openL xs) w2 hrd2 (by omega) Hop.out)
  go_wp2_with fail
  refine r2.out.mono ?_
  rw [PR.out, PE.out]
  intro e w3 hr
  obtain ⟨A3, c3, rfl, _, hrd3, _, hb3⟩ := hr.opens Hl.out
  have b3 := b2.trans (hb3.mono b2.size)
  clear r2 hr hb3 b2 hrd2
  have q1 := run_bytes_str (P := Try.prog) Try.underlying22 Try.underlying5 Try.underlying9 hrd3 c3
  have q2 := run_bytes_str (P := Try.prog) Try.underlying22 Try.underlying5 Try.underlying9 (Hx.out.below b3 (Nat.le_refl _)) cap0
  have r3 := hid (pack_any a0 len0 cap0 xs w3 (Hx.out.below b3 (Nat.le_refl _)) (by omega) Hp.out)
  clear hrd3
  by_cases hle : le1 xs = true
  case neg =>
    have hle' : le1 xs = false := by simpa using hle
    have pe := packE_bad (xs := xs) (by rw [Hl.out]; omega) hle'
    have PE2 := hid pe
    have PR2 := hid (packR_no (xs := xs) (by omega))
    clear pe hle hle'
    go_wp2_with fail
    refine r3.out.mono ?_
    rw [PR2.out, PE2.out]
    intro e w4 hr
    obtain ⟨A4, c4, rfl, _, _, _, hb4⟩ := hr.opens (n := 0) rfl
    have b4 := b3.trans (hb4.mono b3.size)
    clear r3 hr hb4 q1 q2
    go_wp2
    go_ret
    exact ⟨rfl, b4⟩
  case pos =>
    have pe := packE_ok (xs := xs) (by rw [Hl.out]; omega) hle
    have PE2 := hid pe
    have PR2 := hid (packR_ok pe)
    have pl := packL_len xs
    rw [Hl.out] at pl
    have PL := hid pl
    obtain ⟨m, hm2⟩ : ∃ m, m = (len0 + 7) / 8 := ⟨_, rfl⟩
    have hml : (packL xs).length = m := by omega
    have ML := hid hml
    have UE2 := hid (show unpackE (packL xs) = 0 by unfold unpackE; rw [if_neg (by omega)])
    have UR2 := hid (show unpackR (packL xs) = openL (packL xs) by unfold unpackR; rw [if_neg (by omega)])
    have ol2 := openL_len (packL xs)
    rw [hml] at ol2
    have OL2 := hid ol2
    have ot := open_pack_take xs hle Hp.out
    rw [Hl.out] at ot
    have OT := hid ot
    clear ot
    have OR := hid (fun (j : Nat) (h1 : len0 ≤ j) (h2 : j < 8 * m) => open_pack_rest xs hle j (by rw [Hl.out]; exact h1) (by rw [Hl.out]; omega))
    have Hpp := hid (fun k => In.at_ (lo := 0) (hi := 255) (xs := packL xs) (fun y hy => by
      obtain ⟨j, _, rfl⟩ := List.mem_map.1 hy
      have := byte_lt xs (bitAt_le hle) j
      omega) (by omega) (by omega) k)
    have hmu : 8 * m ≤ len0 + 7 := by omega
    have hmd : len0 ≤ 8 * m := by omega
    have HM := hid hm2
    clear pe pl ol2 hml hle hm2
    go_wp2_with fail
    refine r3.out.mono ?_
    rw [PR2.out, PE2.out]
    intro e w4 hr
    obtain ⟨A4, c4, rfl, _, hrd4, _, hb4⟩ := hr.opens ML.out
    have b4 := b3.trans (hb4.mono b3.size)
    clear r3 hr hb4 q1 q2 b3
    have r4 := hid (unpack_any A4 m c4 (packL xs) w4 hrd4 Hpp.out)
    clear hrd4
    go_wp2_with fail
    refine r4.out.mono ?_
    rw [UR2.out, UE2.out]
    intro e w5 hr
    obtain ⟨A5, c5, rfl, hown5, hrd5, _, hb5⟩ := hr.opens OL2.out
    have b5 := b4.trans (hb5.mono b4.size)
    have hcap5 := hown5.capGe
    clear r4 hr hb5 b4 hown5
    have hbnd : (len0 : Int) ≤ (c5 : Int) := by omega
    have t1 : ¬ (8 * (m : Int) < (len0 : Int)) := by omega
    have t2 : ¬ ((len0 : Int) + 7 < 8 * (m : Int)) := by omega
    have d1 : decide (8 * (m : Int) < (len0 : Int)) = false := decide_eq_false t1
    have d2 : decide ((len0 : Int) + 7 < 8 * (m : Int)) = false := decide_eq_false t2
    have ht5 := hrd5.take len0 hmd
    rw [OT.out] at ht5
    have q3 := fun q : Nat => run_bytes_str (P := Try.prog) Try.underlying22 Try.underlying5 Try.underlying9 (ht5.drewN q) c5
    have q4 := fun q : Nat => run_bytes_str (P := Try.prog) Try.underlying22 Try.underlying5 Try.underlying9 ((Hx.out.below b5 (Nat.le_refl _)).drewN q) cap0
    have HR5 := hid hrd5
    clear ht5 hrd5
    go_wp2
    go_quiet (fail)
    have bX : Below w.heap.size w (w5.drewN nq) := below_drewN b5 nq
    have HRX := hid (HR5.out.drewN nq)
    clear q3 q4 b5 HR5
    generalize w5.drewN nq = X at *
    go_wp2
    go_loop [12] (fun i => ∃ k : Nat, len0 ≤ k ∧ k ≤ 8 * m ∧ i = .int .i64 k) (fun i => 8 * m - (intOf i).toNat)
    case atStart => exact ⟨len0, Nat.le_refl _, hmd, rfl⟩
    case round =>
      obtain ⟨k, hk0, hk1, rfl⟩ := hrel
      by_cases hlt : k < 8 * m
      · have hlt' : (k : Int) < 8 * (m : Int) := by omega
        obtain ⟨b, off, rfl, hbl⟩ := HRX.out.addr (by omega)
        have ck := HRX.out.cellAt k hlt
        rw [OR.out k hk0 hlt] at ck
        go_wp2
        go_round
        case rel => exact ⟨k + 1, by omega, by omega, by go_num⟩
        case measure => simp [intOf]; omega
      · have hlt' : ¬ (k : Int) < 8 * (m : Int) := by omega
        go_wp2
        go_ret
        exact ⟨rfl, bX⟩

/-! ### THE ROW's STEP: WRITTEN OUT: LEAVE IT -/
set_option maxRecDepth 100000 in
theorem lifted (os : Os) (started : os.Started) (H : Type) (enc : TypeId × Value → H) :
    ReturnsInHanded {} Try.checked os 8 .any (Rows.bitsWholeSpec.pre6 enc Try.prog Try.f8 Rows.bitsWholeRow.domain false) (Rows.bitsWholeSpec.post enc Try.prog Try.f8 false true false false) := by
  refine returnsInHanded_of_change (C := Try.checked) own started (by kernel_rfl) Try.func8
    (ChangeSpec.witness6 (enc := enc) (C := Try.checked) false ⟨#[], #[.slice none 0 0], []⟩ 8 (by kernel_rfl) (by kernel_rfl) (by kernel_rfl) (by kernel_rfl)) ?_
  intro W base args ds gs before hval0 hW hcnd _
  have hval : ∀ (j : Nat) t v, Try.f8.params[j]? = some t → args[j]? = some v → Value.okWide Try.prog W .any base t v := hval0
  have hW' := hW
  obtain ⟨p, q, hA0, hV, rfl, hfz, hnd⟩ := hW
  have hA : DataW.TrodAll enc Try.prog W 0 (fun _ => true) true Try.f8.params.toList args.toList ds p := hA0
  rw [Try.params8] at hA hval
  obtain ⟨v0, vs0, d0, ds0, p0, q0, hargs, rfl, rfl, h0, r0⟩ := trodAll_cons hA
  obtain ⟨rfl, rfl, rfl⟩ := trodAll_nil r0
  obtain rfl : args = #[v0] := by cases args; simp_all
  obtain ⟨rfl, rfl⟩ := trodVars_none hV
  obtain ⟨a0, len0, cap0, rfl⟩ := okWide_slice Try.underlying22 (hval 0 22 v0 rfl rfl)
  have k0 := h0
  have lt0 : ∀ x ∈ p0, x.block < W.heap.size := by obtain ⟨m, hm⟩ := k0; exact DataW.trod_lt m _ _ _ hm
  obtain ⟨z0, w0⟩ : ∃ zs, IsRow .u8 W a0 len0 cap0 zs := by
    obtain ⟨fuel, hf⟩ := h0
    rcases open_ints Try.underlying22 Try.underlying5 (by kernel_rfl) hf with ⟨hcs, _⟩ | ⟨x, l, c, zs, hcs, _, hl, hm, hz, _, hcell, hwz⟩
    · simp [Value.cells] at hcs
      obtain ⟨rfl, rfl, rfl⟩ := hcs
      exact ⟨[], .inl ⟨rfl, rfl, rfl, rfl⟩⟩
    · simp [Value.cells] at hcs
      obtain ⟨rfl, rfl, rfl⟩ := hcs
      exact ⟨zs, .inr ⟨_, rfl, hl, hm, by simpa using hz, hcell, hwz⟩⟩
  clear hA0 hval0
  refine (walk a0 len0 cap0 z0 W w0).mono fun e W' ⟨he, bel⟩ => ?_
  subst he
  exact ⟨_, rfl, _, _, _, [], _, [], hW', trodAll_mk1 (shut_bool Try.underlying4 _), (trodAll_cons_mk (Below.trod laidOut (by kernel_rfl) (of_decide_eq_true (by kernel_rfl)) k0 bel lt0) trodAll_mk0), rfl, bel.frame _, fun h => by cases h⟩

theorem over : Rows.bitsWholeRow.holds Try.pinned (OpenSpec.ofChange Rows.bitsWholeSpec) :=
  OpenClaim.holds_of_wide 8 Try.f8 rfl rfl rfl rfl rfl rfl rfl ⟨rfl, rfl, rfl, rfl, rfl⟩ rfl rfl rfl rfl rfl (by kernel_rfl) Try.func8 (by kernel_rfl)
    (of_decide_eq_true (by kernel_rfl)) (by unfold Func.isWrapper; first | (rw [if_pos (by decide +kernel)]; kernel_rfl) | (rw [if_neg (by decide +kernel)]; exact ⟨rfl, rfl⟩))
    (fun os started H enc _ => lifted os started H enc)

/-- ████ THE STATEMENT ████ -/
theorem proved : Rows.BitsWholeSaid := over
#print axioms proved
end Go.Proofs.Ytlipmoognbhieaa.bitsWhole
