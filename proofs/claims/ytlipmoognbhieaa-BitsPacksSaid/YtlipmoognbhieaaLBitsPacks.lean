/-
  The law BitsPacks: bits as bytes, and bytes as bits, or the errors, are the reference's; any bytes (at most 10000, the law's own bound); they stay. No condition.
-/
import Derived.Test.YtlipmoognbhieaaRows
import Derived.WalkKit
import Derived.ProofKit
import Derived.OpenShut
import Derived.ShutString
import Derived.ChangeOld
import Derived.Below
import Derived.Test.YtlipmoognbhieaaPackL
namespace Go.Proofs.Ytlipmoognbhieaa.bitsPacks
open Go.ChangeShapes Go.WideShapes Go.ChangeAt Go.RowKit
open Go.ChangeMaps (open_string shut_string)
open Go.Proofs.Ytlipmoognbhieaa
set_option linter.unusedVariables false

theorem own : ownKnob Try.prog.godebug = none := by kernel_rfl
theorem laidOut : laidOutB Try.prog = true := by kernel_rfl

set_option maxHeartbeats 1600000 in
theorem walk (a0 : Option Addr) (len0 cap0 : Nat) (z0 : List Int) (w : World) (w0 : IsRow .u8 w a0 len0 cap0 z0) :
    Calls Try.prog 3 #[.slice a0 len0 cap0] w fun e w' => e = .returned (.bool true) ∧ Below w.heap.size w w' := by
  have hx := w0.rd
  have hin := In.of_wf_u8 w0.wf
  have hm := w0.len.1
  unfold maxLen at hm
  generalize z0.take len0 = xs at hx hin
  clear w0
  by_cases hbig : 10000 < len0
  · clear hx hin
    go_enter Try.func3, Try.ntmps3
    go_wp2
    go_ret
    exact ⟨rfl, Below.refl _ _⟩
  have Hx := hid hx
  have Hp := hid (fun k => hin.at_ (by omega) (by omega) k)
  have hc1 := run_bytes_str (P := Try.prog) Try.underlying22 Try.underlying5 Try.underlying9 hx cap0
  have r1 := hid (pack_any a0 len0 cap0 xs w hx (by omega) Hp.out)
  clear hx hin
  obtain ⟨L, hLe⟩ : ∃ L, (packR xs).length = L := ⟨_, rfl⟩
  obtain ⟨M, hMe⟩ : ∃ M, (unpackR xs).length = M := ⟨_, rfl⟩
  have HL := hid hLe
  have HM := hid hMe
  clear hLe hMe
  go_enter Try.func3, Try.ntmps3
  go_wp2_with fail
  refine r1.out.mono ?_
  intro e w1 hr
  obtain ⟨A1, c1, rfl, _, hrd1, _, b1⟩ := hr.opens HL.out
  clear r1 hr hc1
  have r2 := hid (rpack_any a0 len0 cap0 xs w1 (Hx.out.below b1 (Nat.le_refl _)) (by omega) Hp.out)
  go_wp2_with fail
  refine r2.out.mono ?_
  intro e w2 hr
  obtain ⟨A2, c2, rfl, _, hrd2, _, hb2⟩ := hr.opens HL.out
  have b2 := b1.trans (hb2.mono b1.size)
  have hrd1 := hrd1.below hb2 (Nat.le_refl _)
  clear r2 hr hb2 b1
  have r3 := hid (unpack_any a0 len0 cap0 xs w2 (Hx.out.below b2 (Nat.le_refl _)) Hp.out)
  go_wp2_with fail
  refine r3.out.mono ?_
  intro e w3 hr
  obtain ⟨A3, c3, rfl, _, hrd3, _, hb3⟩ := hr.opens HM.out
  have b3 := b2.trans (hb3.mono b2.size)
  have hrd1 := hrd1.below hb3 (Nat.le_refl _)
  have hrd2 := hrd2.below hb3 (Nat.le_refl _)
  clear r3 hr hb3 b2
  have r4 := hid (runpack_any a0 len0 cap0 xs w3 (Hx.out.below b3 (Nat.le_refl _)) Hp.out)
  go_wp2_with fail
  refine r4.out.mono ?_
  intro e w4 hr
  obtain ⟨A4, c4, rfl, _, hrd4, _, hb4⟩ := hr.opens HM.out
  have b4 := b3.trans (hb4.mono b3.size)
  have q1 := run_bytes_str (P := Try.prog) Try.underlying22 Try.underlying5 Try.underlying9 (hrd1.below hb4 (Nat.le_refl _)) c1
  have q2 := run_bytes_str (P := Try.prog) Try.underlying22 Try.underlying5 Try.underlying9 (hrd2.below hb4 (Nat.le_refl _)) c2
  have q3 := run_bytes_str (P := Try.prog) Try.underlying22 Try.underlying5 Try.underlying9 (hrd3.below hb4 (Nat.le_refl _)) c3
  have q4 := run_bytes_str (P := Try.prog) Try.underlying22 Try.underlying5 Try.underlying9 hrd4 c4
  have q5 := run_bytes_str (P := Try.prog) Try.underlying22 Try.underlying5 Try.underlying9 (Hx.out.below b4 (Nat.le_refl _)) cap0
  clear r4 hr hb4 b3 hrd1 hrd2 hrd3 hrd4
  generalize packE xs = g1
  generalize unpackE xs = g2
  go_wp2
  go_ret
  exact ⟨rfl, b4⟩

/-! ### THE ROW's STEP: WRITTEN OUT: LEAVE IT -/
set_option maxRecDepth 100000 in
theorem lifted (os : Os) (started : os.Started) (H : Type) (enc : TypeId × Value → H) :
    ReturnsInHanded {} Try.checked os 3 .any (Rows.bitsPacksSpec.pre6 enc Try.prog Try.f3 Rows.bitsPacksRow.domain false) (Rows.bitsPacksSpec.post enc Try.prog Try.f3 false true false false) := by
  refine returnsInHanded_of_change (C := Try.checked) own started (by kernel_rfl) Try.func3
    (ChangeSpec.witness6 (enc := enc) (C := Try.checked) false ⟨#[], #[.slice none 0 0], []⟩ 8 (by kernel_rfl) (by kernel_rfl) (by kernel_rfl) (by kernel_rfl)) ?_
  intro W base args ds gs before hval0 hW hcnd _
  have hval : ∀ (j : Nat) t v, Try.f3.params[j]? = some t → args[j]? = some v → Value.okWide Try.prog W .any base t v := hval0
  have hW' := hW
  obtain ⟨p, q, hA0, hV, rfl, hfz, hnd⟩ := hW
  have hA : DataW.TrodAll enc Try.prog W 0 (fun _ => true) true Try.f3.params.toList args.toList ds p := hA0
  rw [Try.params3] at hA hval
  obtain ⟨v0, vs0, d0, ds0, p0, q0, hargs, rfl, rfl, h0, r0⟩ := trodAll_cons hA
  obtain ⟨rfl, rfl, rfl⟩ := trodAll_nil r0
  obtain rfl : args = #[v0] := by cases args; simp_all
  obtain ⟨rfl, rfl⟩ := trodVars_none hV
  obtain ⟨a0, len0, cap0, rfl⟩ := okWide_slice Try.underlying22 (hval 0 22 v0 rfl rfl)
  have k0 := h0
  have lt0 : ∀ x ∈ p0, x.block < W.heap.size := by obtain ⟨m, hm⟩ := k0; exact DataW.trod_lt m _ _ _ hm
  obtain ⟨z0, w0⟩ : ∃ zs, IsRow .u8 W a0 len0 cap0 zs := by
    obtain ⟨fuel, hf⟩ := h0
    rcases open_ints Try.underlying22 Try.underlying5 (by kernel_rfl) hf with ⟨hcs, _⟩ | ⟨x, l, c, zs, hcs, _, hl, hm, hz, _, hcell, hwz⟩
    · simp [Value.cells] at hcs
      obtain ⟨rfl, rfl, rfl⟩ := hcs
      exact ⟨[], .inl ⟨rfl, rfl, rfl, rfl⟩⟩
    · simp [Value.cells] at hcs
      obtain ⟨rfl, rfl, rfl⟩ := hcs
      exact ⟨zs, .inr ⟨_, rfl, hl, hm, by simpa using hz, hcell, hwz⟩⟩
  clear hA0 hval0
  refine (walk a0 len0 cap0 z0 W w0).mono fun e W' ⟨he, bel⟩ => ?_
  subst he
  exact ⟨_, rfl, _, _, _, [], _, [], hW', trodAll_mk1 (shut_bool Try.underlying4 _), (trodAll_cons_mk (Below.trod laidOut (by kernel_rfl) (of_decide_eq_true (by kernel_rfl)) k0 bel lt0) trodAll_mk0), rfl, bel.frame _, fun h => by cases h⟩

theorem over : Rows.bitsPacksRow.holds Try.pinned (OpenSpec.ofChange Rows.bitsPacksSpec) :=
  OpenClaim.holds_of_wide 3 Try.f3 rfl rfl rfl rfl rfl rfl rfl ⟨rfl, rfl, rfl, rfl, rfl⟩ rfl rfl rfl rfl rfl (by kernel_rfl) Try.func3 (by kernel_rfl)
    (of_decide_eq_true (by kernel_rfl)) (by unfold Func.isWrapper; first | (rw [if_pos (by decide +kernel)]; kernel_rfl) | (rw [if_neg (by decide +kernel)]; exact ⟨rfl, rfl⟩))
    (fun os started H enc _ => lifted os started H enc)

/-- ████ THE STATEMENT ████ -/
theorem proved : Rows.BitsPacksSaid := over
#print axioms proved
end Go.Proofs.Ytlipmoognbhieaa.bitsPacks
