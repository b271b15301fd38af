/-
  The law BitsPuts: bits with a number's behind them, and the number of some, or the errors, are the reference's; any bytes (at most 10000, the law's own bound) and numbers; they stay. No condition.
-/
import Derived.Test.YtlipmoognbhieaaRows
import Derived.WalkKit
import Derived.ProofKit
import Derived.OpenShut
import Derived.ShutString
import Derived.ChangeOld
import Derived.Below
import Derived.Test.YtlipmoognbhieaaBitsL
namespace Go.Proofs.Ytlipmoognbhieaa.bitsPuts
open Go.ChangeShapes Go.WideShapes Go.ChangeAt Go.RowKit
open Go.ChangeMaps (open_string shut_string)
open Go.Proofs.Ytlipmoognbhieaa
set_option linter.unusedVariables false

theorem own : ownKnob Try.prog.godebug = none := by kernel_rfl
theorem laidOut : laidOutB Try.prog = true := by kernel_rfl

theorem putL_len (xs : List Int) (n s : Int) (m : Nat) (h : xs.length = m) : (putL xs n s).length ≤ m + 31 := by
  unfold putL
  split
  · rename_i hk
    unfold putOk at hk
    have := of_decide_eq_true hk
    rw [List.length_append, bitsOf_len]
    omega
  · simp

set_option maxHeartbeats 1600000 in
theorem walk (a0 : Option Addr) (len0 cap0 : Nat) (z0 : List Int) (a1 : Int) (a2 : Int) (a3 : Int) (w : World) (w0 : IsRow .u8 w a0 len0 cap0 z0) (w1 : (Lit.int .i64 a1).wf = true) (w2 : (Lit.int .i64 a2).wf = true) (w3 : (Lit.int .i64 a3).wf = true) :
    Calls Try.prog 4 #[.slice a0 len0 cap0, .int .i64 a1, .int .i64 a2, .int .i64 a3] w fun e w' => e = .returned (.bool true) ∧ Below w.heap.size w w' := by
  have hx := w0.rd
  have hin := In.of_wf_u8 w0.wf
  have hm := w0.len.1
  have hnil := w0.nilcap
  have hn1 := wf_i64_bd w1
  have hn2 := wf_i64_bd w2
  unfold maxLen at hm
  generalize z0.take len0 = xs at hx hin
  clear w0 w1 w2 w3
  by_cases hbig : 10000 < len0
  · clear hx hin
    go_enter Try.func4, Try.ntmps4
    go_wp2
    go_ret
    exact ⟨rfl, Below.refl _ _⟩
  have Hx := hid hx
  have Hin := hid hin
  have Hnil := hid hnil
  have hc1 := run_bytes_str (P := Try.prog) Try.underlying22 Try.underlying5 Try.underlying9 hx cap0
  have r1 := hid (put_any a0 len0 cap0 xs a1 a3 w hx (by omega) hnil hn1)
  have hL := putL_len xs a1 a3 len0 hx.1
  clear hx hin hnil
  obtain ⟨L, hLe⟩ : ∃ L, (putL xs a1 a3).length = L := ⟨_, rfl⟩
  rw [hLe] at hL
  have HL := hid hLe
  clear hLe
  go_enter Try.func4, Try.ntmps4
  go_wp2_with fail
  refine r1.out.mono ?_
  intro e w1 hr
  obtain ⟨A1, c1, rfl, hown1, hrd1, _, b1⟩ := hr.opens HL.out
  clear r1 hr hc1
  have r2 := hid (rput_any a0 len0 cap0 xs a1 a3 w1 (Hx.out.below b1 (Nat.le_refl _)) (by omega) Hnil.out hn1)
  go_wp2_with fail
  refine r2.out.mono ?_
  intro e w2 hr
  obtain ⟨A2, c2, rfl, _, hrd2, _, hb2⟩ := hr.opens HL.out
  have b2 := b1.trans (hb2.mono b1.size)
  have hown2 := hown1.below hb2 (Nat.le_refl _)
  have hrd12 := hrd1.below hb2 (Nat.le_refl _)
  clear r2 hr hown1 hrd1 hb2 b1
  have hx2 := Hx.out.below b2 (Nat.le_refl _)
  have r3 := hid (get_any a0 len0 cap0 xs a2 a3 w2 hx2 (by omega) (fun k => Hin.out.at_ (by omega) (by omega) k) hn2)
  have r4 := hid (rget_any a0 len0 cap0 xs a2 a3 w2 hx2 (by omega) (fun k => Hin.out.at_ (by omega) (by omega) k) hn2)
  have hcx := run_bytes_str (P := Try.prog) Try.underlying22 Try.underlying5 Try.underlying9 hrd12 c1
  have hcy := run_bytes_str (P := Try.prog) Try.underlying22 Try.underlying5 Try.underlying9 hrd2 c2
  clear hx2 hrd12 hrd2
  go_wp2_with fail
  refine r3.out.mono ?_
  rintro e w2 ⟨rfl, rfl⟩
  go_wp2_with fail
  refine r4.out.mono ?_
  rintro e w2 ⟨rfl, rfl⟩
  clear r3 r4
  generalize getN xs a2 a3 = g1
  generalize getP xs a2 a3 = g2
  generalize getE xs a2 a3 = g3
  generalize putE a1 a3 = g4
  generalize hy : putL xs a1 a3 = ys at *
  clear hy
  go_wp2
  clear hcx hcy
  go_loopw [21] (fun i wr => ∃ k : Nat, ∃ zs : List Int, k ≤ L ∧ i = .int .i64 k ∧ Own w.heap.size 5 .u8 wr (.slice A1 L c1) zs ∧ Hid (zs.length = L) ∧ Below w.heap.size w wr) (fun i _ => L - (intOf i).toNat)
  case atStart => exact ⟨0, _, Nat.zero_le _, rfl, hown2, HL, b2⟩
  case round =>
    obtain ⟨k, zs, hk, rfl, hown, hl, hbel⟩ := hrel
    by_cases hlt : k < L
    · obtain ⟨g, rfl⟩ : ∃ g, A1 = some ⟨g, 0, none⟩ := by
        rcases hown.2 with ⟨h, _⟩ | ⟨g, _, _, h, _⟩
        · injection h with _ h2; omega
        · injection h with h; exact ⟨g, h⟩
      have cw := hown.cellAt hl.out k hlt
      have fw := hown.frozenAt hl.out k
      have hbw := hown.blockGe
      obtain ⟨hs1, _⟩ := hown.set_ hl.out k ((zs[k]?.getD 0 + 1) % 256)
      have hnl : Hid ((zs.set k ((zs[k]?.getD 0 + 1) % 256)).length = L) := hid (by rw [List.length_set]; exact hl.out)
      have hbel' := hbel.setCell (p := ⟨g, k, none⟩) hbw.1 (.int .u8 ((zs[k]?.getD 0 + 1) % 256))
      go_wp2
      go_roundw
      case rel => exact ⟨k + 1, _, by omega, by go_num, hs1, hnl, hbel'⟩
      case measure => simp [intOf]; omega
    · obtain rfl : k = L := by omega
      have hx3 := Hx.out.below hbel (Nat.le_refl _)
      have hcb := run_bytes_str (P := Try.prog) Try.underlying22 Try.underlying5 Try.underlying9 hx3 cap0
      clear hx3
      go_wp2
      go_ret
      exact ⟨rfl, hbel⟩

/-! ### THE ROW's STEP: WRITTEN OUT: LEAVE IT -/
set_option maxRecDepth 100000 in
theorem lifted (os : Os) (started : os.Started) (H : Type) (enc : TypeId × Value → H) :
    ReturnsInHanded {} Try.checked os 4 .any (Rows.bitsPutsSpec.pre6 enc Try.prog Try.f4 Rows.bitsPutsRow.domain false) (Rows.bitsPutsSpec.post enc Try.prog Try.f4 false true false false) := by
  refine returnsInHanded_of_change (C := Try.checked) own started (by kernel_rfl) Try.func4
    (ChangeSpec.witness6 (enc := enc) (C := Try.checked) false ⟨#[], #[.slice none 0 0, .int .i64 0, .int .i64 0, .int .i64 0], []⟩ 8 (by kernel_rfl) (by kernel_rfl) (by kernel_rfl) (by kernel_rfl)) ?_
  intro W base args ds gs before hval0 hW hcnd _
  have hval : ∀ (j : Nat) t v, Try.f4.params[j]? = some t → args[j]? = some v → Value.okWide Try.prog W .any base t v := hval0
  have hW' := hW
  obtain ⟨p, q, hA0, hV, rfl, hfz, hnd⟩ := hW
  have hA : DataW.TrodAll enc Try.prog W 0 (fun _ => true) true Try.f4.params.toList args.toList ds p := hA0
  rw [Try.params4] at hA hval
  obtain ⟨v0, vs0, d0, ds0, p0, q0, hargs, rfl, rfl, h0, r0⟩ := trodAll_cons hA
  obtain ⟨v1, vs1, d1, ds1, p1, q1, rfl, rfl, rfl, h1, r1⟩ := trodAll_cons r0
  obtain ⟨v2, vs2, d2, ds2, p2, q2, rfl, rfl, rfl, h2, r2⟩ := trodAll_cons r1
  obtain ⟨v3, vs3, d3, ds3, p3, q3, rfl, rfl, rfl, h3, r3⟩ := trodAll_cons r2
  obtain ⟨rfl, rfl, rfl⟩ := trodAll_nil r3
  obtain rfl : args = #[v0, v1, v2, v3] := by cases args; simp_all
  obtain ⟨rfl, rfl⟩ := trodVars_none hV
  obtain ⟨a0, len0, cap0, rfl⟩ := okWide_slice Try.underlying22 (hval 0 22 v0 rfl rfl)
  have k0 := h0
  have lt0 : ∀ x ∈ p0, x.block < W.heap.size := by obtain ⟨m, hm⟩ := k0; exact DataW.trod_lt m _ _ _ hm
  obtain ⟨z0, w0⟩ : ∃ zs, IsRow .u8 W a0 len0 cap0 zs := by
    obtain ⟨fuel, hf⟩ := h0
    rcases open_ints Try.underlying22 Try.underlying5 (by kernel_rfl) hf with ⟨hcs, _⟩ | ⟨x, l, c, zs, hcs, _, hl, hm, hz, _, hcell, hwz⟩
    · simp [Value.cells] at hcs
      obtain ⟨rfl, rfl, rfl⟩ := hcs
      exact ⟨[], .inl ⟨rfl, rfl, rfl, rfl⟩⟩
    · simp [Value.cells] at hcs
      obtain ⟨rfl, rfl, rfl⟩ := hcs
      exact ⟨zs, .inr ⟨_, rfl, hl, hm, by simpa using hz, hcell, hwz⟩⟩
  obtain ⟨a1, rfl, rfl, rfl, w1⟩ := open_int Try.underlying3 (hval 1 3 v1 rfl rfl) h1
  obtain ⟨a2, rfl, rfl, rfl, w2⟩ := open_int Try.underlying3 (hval 2 3 v2 rfl rfl) h2
  obtain ⟨a3, rfl, rfl, rfl, w3⟩ := open_int Try.underlying3 (hval 3 3 v3 rfl rfl) h3
  clear hA0 hval0
  refine (walk a0 len0 cap0 z0 a1 a2 a3 W w0 w1 w2 w3).mono fun e W' ⟨he, bel⟩ => ?_
  subst he
  exact ⟨_, rfl, _, _, _, [], _, [], hW', trodAll_mk1 (shut_bool Try.underlying4 _), (trodAll_cons_mk (Below.trod laidOut (by kernel_rfl) (of_decide_eq_true (by kernel_rfl)) k0 bel lt0) (trodAll_cons_mk (shut_int Try.underlying3 w1) (trodAll_cons_mk (shut_int Try.underlying3 w2) (trodAll_cons_mk (shut_int Try.underlying3 w3) trodAll_mk0)))), rfl, bel.frame _, fun h => by cases h⟩

theorem over : Rows.bitsPutsRow.holds Try.pinned (OpenSpec.ofChange Rows.bitsPutsSpec) :=
  OpenClaim.holds_of_wide 4 Try.f4 rfl rfl rfl rfl rfl rfl rfl ⟨rfl, rfl, rfl, rfl, rfl⟩ rfl rfl rfl rfl rfl (by kernel_rfl) Try.func4 (by kernel_rfl)
    (of_decide_eq_true (by kernel_rfl)) (by unfold Func.isWrapper; first | (rw [if_pos (by decide +kernel)]; kernel_rfl) | (rw [if_neg (by decide +kernel)]; exact ⟨rfl, rfl⟩))
    (fun os started H enc _ => lifted os started H enc)

/-- ████ THE STATEMENT ████ -/
theorem proved : Rows.BitsPutsSaid := over
#print axioms proved
end Go.Proofs.Ytlipmoognbhieaa.bitsPuts
