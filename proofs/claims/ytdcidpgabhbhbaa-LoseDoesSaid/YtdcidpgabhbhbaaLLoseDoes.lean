/-
  The law LoseDoes: lost frames' sequences and lines are as the document says; any sequence, lines (at most 1000 on each side, the law's own bound), and numbers. No condition.
-/
import Derived.Test.YtdcidpgabhbhbaaRows
import Derived.WalkKit
import Derived.ProofKit
import Derived.OpenShut
import Derived.ShutString
import Derived.ChangeOld
import Derived.Below
import Derived.Test.YtdcidpgabhbhbaaLoseG
namespace Go.Proofs.Ytdcidpgabhbhbaa.loseDoes
open Go.ChangeShapes Go.WideShapes Go.ChangeAt Go.RowKit
open Go.ChangeMaps (open_string shut_string)
open Go.Proofs.Ytdcidpgabhbhbaa
set_option linter.unusedVariables false

theorem own : ownKnob Try.prog.godebug = none := by kernel_rfl
theorem laidOut : laidOutB Try.prog = true := by kernel_rfl

theorem same_self (xs : List Int) : sameB xs xs = true := by unfold sameB; rw [decide_eq_true rfl]
theorem loseR_short (xs ys : List Int) (at_ many : Int) : (loseR xs ys at_ many).length ≤ 256 := by
  unfold loseR; split
  · rw [loseL_len]; omega
  · simp

set_option maxRecDepth 8000 in
set_option maxHeartbeats 1600000 in
theorem walk (a0 : Int) (a1 : Option Addr) (len1 cap1 : Nat) (z1 : List Int) (a2 : Option Addr) (len2 cap2 : Nat) (z2 : List Int) (a3 : Int) (a4 : Int) (w : World) (w0 : (Lit.int .u8 a0).wf = true) (w1 : IsRow .i64 w a1 len1 cap1 z1) (w2 : IsRow .i64 w a2 len2 cap2 z2) (w3 : (Lit.int .i64 a3).wf = true) (w4 : (Lit.int .i64 a4).wf = true) :
    Calls Try.prog 10 #[.int .u8 a0, .slice a1 len1 cap1, .slice a2 len2 cap2, .int .i64 a3, .int .i64 a4] w fun e w' => e = .returned (.bool true) ∧ Below w.heap.size w w' := by
  have hb : 0 ≤ a0 ∧ a0 ≤ 255 := by
    have := In.of_wf_u8 (xs := [a0]) (by intro n hn; rw [List.mem_singleton] at hn; rw [hn]; exact w0) a0 (List.mem_singleton.2 rfl)
    exact this
  obtain ⟨h0, h1⟩ := hb
  have Hx := hid w1.rd
  have Hy := hid w2.rd
  have Hnx := hid w1.nilcap
  have Hny := hid w2.nilcap
  have hm0 := w1.len.1
  have hm1 := w2.len.1
  unfold maxLen at hm0 hm1
  generalize z1.take len1 = xs at Hx
  generalize z2.take len2 = ys at Hy
  clear w0 w1 w2 w3 w4
  have b0 := Below.refl w.heap.size w
  by_cases hbig : 1000 < len1
  · go_enter Try.func10, Try.ntmps10
    go_wp2
    go_ret
    exact ⟨rfl, b0⟩
  by_cases hbig1 : 1000 < len2
  · go_enter Try.func10, Try.ntmps10
    go_wp2
    go_ret
    exact ⟨rfl, b0⟩
  have e0 : Own w.heap.size 3 .i64 w (.slice none 0 0) [] := Own.none_
  have hx0 := Hx.out
  have hn0 := Hnx.out
  have hlen1 : ([] : List Int).length + len1 < 17592186044416 := by simp; omega
  have hlen2 : ([] : List Int).length + len2 < 17592186044416 := by simp; omega
  have hR := loseR_short xs ys a3 a4
  obtain ⟨m, hm⟩ : ∃ m, (loseR xs ys a3 a4).length = m := ⟨_, rfl⟩
  rw [hm] at hR
  have HM := hid hm
  clear hm
  go_enter Try.func10, Try.ntmps10
  go_wp2_with (first
    | (at_builtin; refine wpList_join _ rfl _ _ _ rfl 3 .i64 8 Try.underlying22 Try.info_int (by omega) w.heap.size w _ _ _ _ _ _ e0 hx0 hn0 b0 (Nat.le_refl _) hlen1 rfl rfl ?_; intro v1 w1 hown1 b1 _ _; clear e0 hx0 hn0; have hy1 := Hy.out.below b1 (Nat.le_refl _); have hny := Hny.out; have e1 : Own w1.heap.size 3 .i64 w1 (.slice none 0 0) [] := Own.none_; have bb1 := Below.refl w1.heap.size w1)
    | (at_builtin; refine wpList_join _ rfl _ _ _ rfl 3 .i64 8 Try.underlying22 Try.info_int (by omega) w1.heap.size w1 _ _ _ _ _ _ e1 hy1 hny bb1 (Nat.le_refl _) hlen2 rfl rfl ?_; intro v2 w2 hown2 b2 _ _; clear e1 hy1 hny bb1))
  rw [List.nil_append] at hown1 hown2
  obtain ⟨A1, c1, rfl, hrd1, _, _⟩ := hown1.forms Hx.out.1
  obtain ⟨A2, c2, rfl, hrd2, _, _⟩ := hown2.forms Hy.out.1
  have hrd1 := hrd1.below b2 (Nat.le_refl _)
  have bw2 := b1.trans (b2.mono b1.size)
  clear hown1 hown2 b1 b2 hlen1 hlen2 b0
  go_wp2_with fail
  refine (seq_any a0 w2 h0 h1).mono ?_
  rintro e w' ⟨rfl, rfl⟩
  go_wp2_with fail
  refine (rseq_any a0 w2 h0 h1).mono ?_
  rintro e w' ⟨rfl, rfl⟩
  go_wp2_with fail
  refine (lines_any A1 A2 len1 c1 len2 c2 xs ys a3 a4 w2 hrd1 hrd2).mono ?_
  intro e w3 hr
  obtain ⟨A3, c3, rfl, hown3, hrd3, _, b3⟩ := hr.opens HM.out
  have bw3 := bw2.trans (b3.mono bw2.size)
  clear hr
  go_wp2_with fail
  refine (rlines_any a1 a2 len1 cap1 len2 cap2 xs ys a3 a4 w3 (Hx.out.below bw3 (Nat.le_refl _)) (Hy.out.below bw3 (Nat.le_refl _))).mono ?_
  intro e w4 hr
  obtain ⟨A4, c4, rfl, _, hrd4, _, b4⟩ := hr.opens HM.out
  have bw4 := bw3.trans (b4.mono bw3.size)
  have b24 := b3.trans (b4.mono b3.size)
  have hown3 := hown3.below b4 (Nat.le_refl _)
  have hrd3 := hrd3.below b4 (Nat.le_refl _)
  clear hr b3 b4 bw3
  have q1 : (seqN a0 != seqN a0) = false := by simp
  have q2 : (seqE a0 != seqE a0) = false := by simp
  have q3 : (loseE xs ys a3 a4 != loseE xs ys a3 a4) = false := by simp
  generalize seqN a0 = s1 at *
  generalize seqE a0 = s2 at *
  generalize loseE xs ys a3 a4 = s3 at *
  go_wp2_with fail
  refine (same_any A3 A4 m c3 m c4 _ _ w4 hrd3 hrd4 (by omega)).mono ?_
  rw [same_self]
  rintro e w5 ⟨rfl, q, rfl⟩
  have hown5 : Own w2.heap.size 3 .i64 (w4.drewN q) (.slice A3 m c3) (loseR xs ys a3 a4) := hown3
  have b25 := below_drewN b24 q
  clear hrd3 hrd4 hown3 b24 bw4
  generalize w4.drewN q = w5 at *
  go_wp2
  go_loopw [21] (fun i wr => ∃ k : Nat, ∃ zs : List Int, k ≤ m ∧ i = .int .i64 k ∧ Own w2.heap.size 3 .i64 wr (.slice A3 m c3) zs ∧ Hid (zs.length = m) ∧ Below w2.heap.size w2 wr) (fun i _ => m - (intOf i).toNat)
  case atStart => exact ⟨0, _, Nat.zero_le _, rfl, hown5, HM, b25⟩
  case round =>
    obtain ⟨k, zs, hk, rfl, hown, hl, hbel⟩ := hrel
    by_cases hlt : k < m
    · obtain ⟨g, rfl⟩ : ∃ g, A3 = some ⟨g, 0, none⟩ := by
        rcases hown.2 with ⟨h, _⟩ | ⟨g, _, _, h, _⟩
        · injection h with _ h2; omega
        · injection h with h; exact ⟨g, h⟩
      have cw := hown.cellAt hl.out k hlt
      have fw := hown.frozenAt hl.out k
      have hbw := hown.blockGe
      obtain ⟨hs1, _⟩ := hown.set_ hl.out k 7
      have hnl : Hid ((zs.set k 7).length = m) := hid (by rw [List.length_set]; exact hl.out)
      have hbel' := hbel.setCell (p := ⟨g, k, none⟩) hbw.1 (.int .i64 7)
      go_wp2
      go_roundw
      case rel => exact ⟨k + 1, _, by omega, by go_num, hs1, hnl, hbel'⟩
      case measure => simp [intOf]; omega
    · obtain rfl : k = m := by omega
      have bwr := bw2.trans (hbel.mono bw2.size)
      have hx3 := Hx.out.below bwr (Nat.le_refl _)
      have hy3 := Hy.out.below bwr (Nat.le_refl _)
      have hrd1 := hrd1.below hbel (Nat.le_refl _)
      have hrd2 := hrd2.below hbel (Nat.le_refl _)
      clear hown hbel
      go_wp2_with fail
      refine (same_any A1 a1 len1 c1 len1 cap1 xs xs wr hrd1 hx3 (by omega)).mono ?_
      rw [same_self]
      rintro e w6 ⟨rfl, q, rfl⟩
      have hy3 := hy3.drewN q
      have hrd2 := hrd2.drewN q
      have bwr := below_drewN bwr q
      generalize wr.drewN q = w6 at *
      go_wp2_with fail
      refine (same_any A2 a2 len2 c2 len2 cap2 ys ys w6 hrd2 hy3 (by omega)).mono ?_
      rw [same_self]
      rintro e w7 ⟨rfl, q, rfl⟩
      have bwr := below_drewN bwr q
      generalize w6.drewN q = w7 at *
      go_wp2
      go_ret
      exact ⟨rfl, bwr⟩

/-! ### THE ROW's STEP: WRITTEN OUT: LEAVE IT -/
set_option maxRecDepth 100000 in
theorem lifted (os : Os) (started : os.Started) (H : Type) (enc : TypeId × Value → H) :
    ReturnsInHanded {} Try.checked os 10 .any (Rows.loseDoesSpec.pre6 enc Try.prog Try.f10 Rows.loseDoesRow.domain false) (Rows.loseDoesSpec.post enc Try.prog Try.f10 false true false false) := by
  refine returnsInHanded_of_change (C := Try.checked) own started (by kernel_rfl) Try.func10
    (ChangeSpec.witness6 (enc := enc) (C := Try.checked) false ⟨#[], #[.int .u8 0, .slice none 0 0, .slice none 0 0, .int .i64 0, .int .i64 0], []⟩ 8 (by kernel_rfl) (by kernel_rfl) (by kernel_rfl) (by kernel_rfl)) ?_
  intro W base args ds gs before hval0 hW hcnd _
  have hval : ∀ (j : Nat) t v, Try.f10.params[j]? = some t → args[j]? = some v → Value.okWide Try.prog W .any base t v := hval0
  have hW' := hW
  obtain ⟨p, q, hA0, hV, rfl, hfz, hnd⟩ := hW
  have hA : DataW.TrodAll enc Try.prog W 0 (fun _ => true) true Try.f10.params.toList args.toList ds p := hA0
  rw [Try.params10] at hA hval
  obtain ⟨v0, vs0, d0, ds0, p0, q0, hargs, rfl, rfl, h0, r0⟩ := trodAll_cons hA
  obtain ⟨v1, vs1, d1, ds1, p1, q1, rfl, rfl, rfl, h1, r1⟩ := trodAll_cons r0
  obtain ⟨v2, vs2, d2, ds2, p2, q2, rfl, rfl, rfl, h2, r2⟩ := trodAll_cons r1
  obtain ⟨v3, vs3, d3, ds3, p3, q3, rfl, rfl, rfl, h3, r3⟩ := trodAll_cons r2
  obtain ⟨v4, vs4, d4, ds4, p4, q4, rfl, rfl, rfl, h4, r4⟩ := trodAll_cons r3
  obtain ⟨rfl, rfl, rfl⟩ := trodAll_nil r4
  obtain rfl : args = #[v0, v1, v2, v3, v4] := by cases args; simp_all
  obtain ⟨rfl, rfl⟩ := trodVars_none hV
  obtain ⟨a0, rfl, rfl, rfl, w0⟩ := open_int Try.underlying5 (hval 0 5 v0 rfl rfl) h0
  obtain ⟨a1, len1, cap1, rfl⟩ := okWide_slice Try.underlying22 (hval 1 22 v1 rfl rfl)
  have k1 := h1
  have lt1 : ∀ x ∈ p1, x.block < W.heap.size := by obtain ⟨m, hm⟩ := k1; exact DataW.trod_lt m _ _ _ hm
  obtain ⟨z1, w1⟩ : ∃ zs, IsRow .i64 W a1 len1 cap1 zs := by
    obtain ⟨fuel, hf⟩ := h1
    rcases open_ints Try.underlying22 Try.underlying3 (by kernel_rfl) hf with ⟨hcs, _⟩ | ⟨x, l, c, zs, hcs, _, hl, hm, hz, _, hcell, hwz⟩
    · simp [Value.cells] at hcs
      obtain ⟨rfl, rfl, rfl⟩ := hcs
      exact ⟨[], .inl ⟨rfl, rfl, rfl, rfl⟩⟩
    · simp [Value.cells] at hcs
      obtain ⟨rfl, rfl, rfl⟩ := hcs
      exact ⟨zs, .inr ⟨_, rfl, hl, hm, by simpa using hz, hcell, hwz⟩⟩
  obtain ⟨a2, len2, cap2, rfl⟩ := okWide_slice Try.underlying22 (hval 2 22 v2 rfl rfl)
  have k2 := h2
  have lt2 : ∀ x ∈ p2, x.block < W.heap.size := by obtain ⟨m, hm⟩ := k2; exact DataW.trod_lt m _ _ _ hm
  obtain ⟨z2, w2⟩ : ∃ zs, IsRow .i64 W a2 len2 cap2 zs := by
    obtain ⟨fuel, hf⟩ := h2
    rcases open_ints Try.underlying22 Try.underlying3 (by kernel_rfl) hf with ⟨hcs, _⟩ | ⟨x, l, c, zs, hcs, _, hl, hm, hz, _, hcell, hwz⟩
    · simp [Value.cells] at hcs
      obtain ⟨rfl, rfl, rfl⟩ := hcs
      exact ⟨[], .inl ⟨rfl, rfl, rfl, rfl⟩⟩
    · simp [Value.cells] at hcs
      obtain ⟨rfl, rfl, rfl⟩ := hcs
      exact ⟨zs, .inr ⟨_, rfl, hl, hm, by simpa using hz, hcell, hwz⟩⟩
  obtain ⟨a3, rfl, rfl, rfl, w3⟩ := open_int Try.underlying3 (hval 3 3 v3 rfl rfl) h3
  obtain ⟨a4, rfl, rfl, rfl, w4⟩ := open_int Try.underlying3 (hval 4 3 v4 rfl rfl) h4
  clear hA0 hval0
  refine (walk a0 a1 len1 cap1 z1 a2 len2 cap2 z2 a3 a4 W w0 w1 w2 w3 w4).mono fun e W' ⟨he, bel⟩ => ?_
  subst he
  exact ⟨_, rfl, _, _, _, [], _, [], hW', trodAll_mk1 (shut_bool Try.underlying4 _), (trodAll_cons_mk (shut_int Try.underlying5 w0) (trodAll_cons_mk (Below.trod laidOut (by kernel_rfl) (of_decide_eq_true (by kernel_rfl)) k1 bel lt1) (trodAll_cons_mk (Below.trod laidOut (by kernel_rfl) (of_decide_eq_true (by kernel_rfl)) k2 bel lt2) (trodAll_cons_mk (shut_int Try.underlying3 w3) (trodAll_cons_mk (shut_int Try.underlying3 w4) trodAll_mk0))))), rfl, bel.frame _, fun h => by cases h⟩

theorem over : Rows.loseDoesRow.holds Try.pinned (OpenSpec.ofChange Rows.loseDoesSpec) :=
  OpenClaim.holds_of_wide 10 Try.f10 rfl rfl rfl rfl rfl rfl rfl ⟨rfl, rfl, rfl, rfl, rfl⟩ rfl rfl rfl rfl rfl (by kernel_rfl) Try.func10 (by kernel_rfl)
    (of_decide_eq_true (by kernel_rfl)) (by unfold Func.isWrapper; first | (rw [if_pos (by decide +kernel)]; kernel_rfl) | (rw [if_neg (by decide +kernel)]; exact ⟨rfl, rfl⟩))
    (fun os started H enc _ => lifted os started H enc)

/-- ████ THE STATEMENT ████ -/
theorem proved : Rows.LoseDoesSaid := over
#print axioms proved
end Go.Proofs.Ytdcidpgabhbhbaa.loseDoes
