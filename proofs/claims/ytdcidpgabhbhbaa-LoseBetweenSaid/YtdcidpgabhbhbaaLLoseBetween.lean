/-
  The law LoseBetween: no lost line is beyond both sides, and long runs end in silence; any lines (at most 1000 on each side, the law's own bound), and numbers. No condition.
-/
import Derived.Test.YtdcidpgabhbhbaaRows
import Derived.WalkKit
import Derived.ProofKit
import Derived.OpenShut
import Derived.ShutString
import Derived.ChangeOld
import Derived.Below
import Derived.Test.YtdcidpgabhbhbaaLoseL
import Derived.BigQuiet
import Derived.Deep.QuietTactic
namespace Go.Proofs.Ytdcidpgabhbhbaa.loseBetween
open Go.ChangeShapes Go.WideShapes Go.ChangeAt Go.RowKit
open Go.ChangeMaps (open_string shut_string)
open Go.Proofs.Ytdcidpgabhbhbaa
set_option linter.unusedVariables false

theorem own : ownKnob Try.prog.godebug = none := by kernel_rfl
theorem laidOut : laidOutB Try.prog = true := by kernel_rfl

/-- What stands behind a lost line, as the law has it. -/
def other (ys : List Int) (many : Int) (k : Nat) : Int := if many ≤ 2 ∧ 0 < ys.length then ys[k]?.getD 0 else 0

theorem between {xs ys : List Int} {at_ many : Int} (k : Nat) (h1 : 1 ≤ at_) (h2 : at_ ≤ many) :
    ¬ loseAt xs ys at_ many k > max (xs[k]?.getD 0) (other ys many k) ∧ ¬ loseAt xs ys at_ many k < min (xs[k]?.getD 0) (other ys many k) ∧ (many > 2 → at_ > 8 → loseAt xs ys at_ many k = 0) := by
  unfold loseAt other
  generalize xs[k]?.getD 0 = x
  by_cases h : many ≤ 2 ∧ 0 < ys.length
  · rw [if_pos h, if_pos h]
    generalize ys[k]?.getD 0 = y
    have hc : (many = 1 ∧ at_ = 1) ∨ (many = 2 ∧ at_ = 1) ∨ (many = 2 ∧ at_ = 2) := by omega
    rcases hc with ⟨rfl, rfl⟩ | ⟨rfl, rfl⟩ | ⟨rfl, rfl⟩ <;> omega
  · rw [if_neg h, if_neg h]
    by_cases h8 : 8 < at_
    · rw [if_pos h8]; omega
    · rw [if_neg h8]
      obtain ⟨n, rfl⟩ : ∃ n : Nat, at_ = n := Int.eq_ofNat_of_zero_le (by omega)
      rw [Int.toNat_natCast]
      have hc : n = 1 ∨ n = 2 ∨ n = 3 ∨ n = 4 ∨ n = 5 ∨ n = 6 ∨ n = 7 ∨ n = 8 := by omega
      rcases hc with rfl | rfl | rfl | rfl | rfl | rfl | rfl | rfl <;> omega

set_option maxRecDepth 8000 in
set_option maxHeartbeats 1600000 in
theorem walk (a0 : Option Addr) (len0 cap0 : Nat) (z0 : List Int) (a1 : Option Addr) (len1 cap1 : Nat) (z1 : List Int) (a2 : Int) (a3 : Int) (w : World) (w0 : IsRow .i64 w a0 len0 cap0 z0) (w1 : IsRow .i64 w a1 len1 cap1 z1) (w2 : (Lit.int .i64 a2).wf = true) (w3 : (Lit.int .i64 a3).wf = true) :
    Calls Try.prog 3 #[.slice a0 len0 cap0, .slice a1 len1 cap1, .int .i64 a2, .int .i64 a3] w fun e w' => e = .returned (.bool true) ∧ Below w.heap.size w w' := by
  have Hx := hid w0.rd
  have Hy := hid w1.rd
  have hm0 := w0.len.1
  have hm1 := w1.len.1
  unfold maxLen at hm0 hm1
  generalize z0.take len0 = xs at Hx
  generalize z1.take len1 = ys at Hy
  clear w0 w1 w2 w3
  have H0 := hid (alive_any w)
  by_cases hbig : 1000 < len0
  · go_enter Try.func3, Try.ntmps3
    go_wp2_with fail
    refine H0.out.mono ?_
    rintro e w1 ⟨rfl, hb⟩
    go_wp2
    go_ret
    exact ⟨rfl, hb⟩
  by_cases hbig1 : 1000 < len1
  · go_enter Try.func3, Try.ntmps3
    go_wp2_with fail
    refine H0.out.mono ?_
    rintro e w1 ⟨rfl, hb⟩
    go_wp2
    go_ret
    exact ⟨rfl, hb⟩
  have hlx := Hx.out.1
  have hly := Hy.out.1
  by_cases he : loseE xs ys a2 a3 = 0
  case neg =>
    have L := hid (show (loseR xs ys a2 a3).length = 0 by rw [loseR_no he]; rfl)
    have hgb : (loseE xs ys a2 a3 != 0) = true := by simp; exact he
    clear hlx hly he
    go_enter Try.func3, Try.ntmps3
    go_wp2_with fail
    refine H0.out.mono ?_
    rintro e w1 ⟨rfl, b1⟩
    clear H0
    have r1 := hid (lines_any a0 a1 len0 cap0 len1 cap1 xs ys a2 a3 w1 (Hx.out.below b1 (Nat.le_refl _)) (Hy.out.below b1 (Nat.le_refl _)))
    go_wp2_with fail
    refine r1.out.mono ?_
    intro e w2 hr
    obtain ⟨A3, c3, rfl, _, _, _, hb2⟩ := hr.opens L.out
    have b2 := b1.trans (hb2.mono b1.size)
    clear r1 hr hb2 b1
    generalize loseE xs ys a2 a3 = g at *
    go_wp2
    go_ret
    exact ⟨rfl, b2⟩
  obtain ⟨h1, h2, h3, hl0, hl1, hox, hoy⟩ := loseE_zero he
  obtain rfl : len0 = 256 := by omega
  have L := hid (show (loseR xs ys a2 a3).length = 256 by rw [loseR_ok he]; exact loseL_len _ _ _ _)
  have RL := hid (loseR_ok he)
  have E := hid he
  have BT := hid (fun k : Nat => between (xs := xs) (ys := ys) (at_ := a2) (many := a3) k h1 h2)
  have HO1 : Hid (a3 ≤ 2 → 0 < len1 → ∀ k, other ys a3 k = ys[k]?.getD 0) := hid (fun h h' k => by unfold other; rw [if_pos ⟨h, by omega⟩])
  have HO2 : Hid (¬ (a3 ≤ 2 ∧ 0 < len1) → ∀ k, other ys a3 k = 0) := hid (fun h k => by unfold other; rw [if_neg (by rw [hly]; exact h)])
  have hcase : (a3 ≤ 2 ∧ len1 = 256) ∨ (a3 ≤ 2 ∧ len1 = 0) ∨ ¬ a3 ≤ 2 := by omega
  have hl1' : len1 = 256 ∨ len1 = 0 := by omega
  clear he hlx hly hl0 hl1 hox hoy
  rcases hcase with ⟨hm2, rfl⟩ | ⟨hm2, rfl⟩ | hm2
  all_goals
    go_enter Try.func3, Try.ntmps3
    go_wp2_with fail
    refine H0.out.mono ?_
    rintro e w1 ⟨rfl, b1⟩
    clear H0
    have r1 := hid (lines_any a0 a1 256 cap0 _ cap1 xs ys a2 a3 w1 (Hx.out.below b1 (Nat.le_refl _)) (Hy.out.below b1 (Nat.le_refl _)))
    go_wp2_with fail
    refine r1.out.mono ?_
    rw [E.out]
    intro e w2 hr
    obtain ⟨A3, c3, rfl, _, hrd, _, hb2⟩ := hr.opens L.out
    rw [RL.out] at hrd
    have b2 := b1.trans (hb2.mono b1.size)
    have hxw := Hx.out.below b2 (Nat.le_refl _)
    have hyw := Hy.out.below b2 (Nat.le_refl _)
    clear r1 hr hb2 b1 Hx Hy E L RL
    go_wp2
    go_loopw [12] (fun i wr => ∃ k q : Nat, k ≤ 256 ∧ i = .int .i64 k ∧ wr = w2.drewN q) (fun i _ => 256 - (intOf i).toNat)
    case atStart => exact ⟨0, 0, by omega, rfl, rfl⟩
    case round =>
      obtain ⟨k, q, hk, rfl, rfl⟩ := hrel
      by_cases hlt : k < 256
      · have hlt' : (k : Int) < 256 := by omega
        obtain ⟨hb1, hb2, hb3⟩ := BT.out k
        obtain ⟨ba, oa, rfl, _⟩ := hxw.addr (by omega)
        obtain ⟨bl, ol, rfl, _⟩ := hrd.addr (by omega)
        have cx := fun q => (hxw.drewN q).cellAt k hlt
        have cl := fun q => (hrd.drewN q).cellAt k hlt
        have e3 := loseL_at (xs := xs) (ys := ys) (at_ := a2) (many := a3) hlt
        rw [e3] at cl
        clear e3
        first
        | (rw [HO1.out hm2 (by omega)] at hb1 hb2
           obtain ⟨by_, oy, rfl, _⟩ := hyw.addr (by omega)
           have cy := (hyw.drewN q).cellAt k hlt
           generalize ys[k]?.getD 0 = Y at *)
        | (rw [HO2.out (by omega)] at hb1 hb2
           skip)
        generalize xs[k]?.getD 0 = X at *
        generalize loseAt xs ys a2 a3 k = L at *
        clear BT HO1 HO2 hl1'
        first
        | (have t1 : decide (L ≤ if X < Y then Y else X) = true := decide_eq_true (by split <;> omega)
           have t1b : decide ((if X < Y then Y else X) < L) = false := decide_eq_false (by split <;> omega)
           have t2 : decide (L < if Y < X then Y else X) = false := decide_eq_false (by split <;> omega)
           have hgo : (¬ 2 < a3) ∨ (2 < a3 ∧ 8 < a2 ∧ (L != 0) = false) ∨ (2 < a3 ∧ ¬ 8 < a2) := by omega)
        | (have t1 : decide (L ≤ if X < 0 then 0 else X) = true := decide_eq_true (by split <;> omega)
           have t1b : decide ((if X < 0 then 0 else X) < L) = false := decide_eq_false (by split <;> omega)
           have t2 : decide (L < if 0 < X then 0 else X) = false := decide_eq_false (by split <;> omega)
           have hgo : (¬ 2 < a3) ∨ (2 < a3 ∧ 8 < a2 ∧ (L != 0) = false) ∨ (2 < a3 ∧ ¬ 8 < a2) := by
            rcases (show ¬ 2 < a3 ∨ (2 < a3 ∧ 8 < a2) ∨ (2 < a3 ∧ ¬ 8 < a2) by omega) with h | ⟨h, h'⟩ | h
            · exact .inl h
            · exact .inr (.inl ⟨h, h', by rw [hb3 h h']; rfl⟩)
            · exact .inr (.inr h))
        clear hb3 hb1 hb2
        have hgo2 : decide (2 < a3) = false ∨ (decide (2 < a3) = true ∧ decide (8 < a2) = true ∧ (L != 0) = false) ∨ (decide (2 < a3) = true ∧ decide (8 < a2) = false) := by
          rcases hgo with h | ⟨h, h', h2⟩ | ⟨h, h'⟩
          · exact .inl (decide_eq_false h)
          · exact .inr (.inl ⟨decide_eq_true h, decide_eq_true h', h2⟩)
          · exact .inr (.inr ⟨decide_eq_true h, decide_eq_false h'⟩)
        clear hgo
        rcases hgo2 with h2' | ⟨h2', h8, hL0⟩ | ⟨h2', h8⟩
        all_goals first | (exfalso; have := of_decide_eq_true h2'; omega) | (exfalso; have := of_decide_eq_false h2'; omega) | skip
        all_goals
          go_wp2
          go_quiet (fail)
          go_wp2
          go_roundw
          case rel => exact ⟨k + 1, _, by omega, by go_num, rfl⟩
          case measure => simp [intOf]; omega
      · obtain rfl : k = 256 := by omega
        go_wp2
        go_ret
        exact ⟨rfl, below_drewN b2 q⟩

/-! ### THE ROW's STEP: WRITTEN OUT: LEAVE IT -/
set_option maxRecDepth 100000 in
theorem lifted (os : Os) (started : os.Started) (H : Type) (enc : TypeId × Value → H) :
    ReturnsInHanded {} Try.checked os 3 .any (Rows.loseBetweenSpec.pre6 enc Try.prog Try.f3 Rows.loseBetweenRow.domain false) (Rows.loseBetweenSpec.post enc Try.prog Try.f3 false true false false) := by
  refine returnsInHanded_of_change (C := Try.checked) own started (by kernel_rfl) Try.func3
    (ChangeSpec.witness6 (enc := enc) (C := Try.checked) false ⟨#[], #[.slice none 0 0, .slice none 0 0, .int .i64 0, .int .i64 0], []⟩ 8 (by kernel_rfl) (by kernel_rfl) (by kernel_rfl) (by kernel_rfl)) ?_
  intro W base args ds gs before hval0 hW hcnd _
  have hval : ∀ (j : Nat) t v, Try.f3.params[j]? = some t → args[j]? = some v → Value.okWide Try.prog W .any base t v := hval0
  have hW' := hW
  obtain ⟨p, q, hA0, hV, rfl, hfz, hnd⟩ := hW
  have hA : DataW.TrodAll enc Try.prog W 0 (fun _ => true) true Try.f3.params.toList args.toList ds p := hA0
  rw [Try.params3] at hA hval
  obtain ⟨v0, vs0, d0, ds0, p0, q0, hargs, rfl, rfl, h0, r0⟩ := trodAll_cons hA
  obtain ⟨v1, vs1, d1, ds1, p1, q1, rfl, rfl, rfl, h1, r1⟩ := trodAll_cons r0
  obtain ⟨v2, vs2, d2, ds2, p2, q2, rfl, rfl, rfl, h2, r2⟩ := trodAll_cons r1
  obtain ⟨v3, vs3, d3, ds3, p3, q3, rfl, rfl, rfl, h3, r3⟩ := trodAll_cons r2
  obtain ⟨rfl, rfl, rfl⟩ := trodAll_nil r3
  obtain rfl : args = #[v0, v1, v2, v3] := by cases args; simp_all
  obtain ⟨rfl, rfl⟩ := trodVars_none hV
  obtain ⟨a0, len0, cap0, rfl⟩ := okWide_slice Try.underlying22 (hval 0 22 v0 rfl rfl)
  have k0 := h0
  have lt0 : ∀ x ∈ p0, x.block < W.heap.size := by obtain ⟨m, hm⟩ := k0; exact DataW.trod_lt m _ _ _ hm
  obtain ⟨z0, w0⟩ : ∃ zs, IsRow .i64 W a0 len0 cap0 zs := by
    obtain ⟨fuel, hf⟩ := h0
    rcases open_ints Try.underlying22 Try.underlying3 (by kernel_rfl) hf with ⟨hcs, _⟩ | ⟨x, l, c, zs, hcs, _, hl, hm, hz, _, hcell, hwz⟩
    · simp [Value.cells] at hcs
      obtain ⟨rfl, rfl, rfl⟩ := hcs
      exact ⟨[], .inl ⟨rfl, rfl, rfl, rfl⟩⟩
    · simp [Value.cells] at hcs
      obtain ⟨rfl, rfl, rfl⟩ := hcs
      exact ⟨zs, .inr ⟨_, rfl, hl, hm, by simpa using hz, hcell, hwz⟩⟩
  obtain ⟨a1, len1, cap1, rfl⟩ := okWide_slice Try.underlying22 (hval 1 22 v1 rfl rfl)
  have k1 := h1
  have lt1 : ∀ x ∈ p1, x.block < W.heap.size := by obtain ⟨m, hm⟩ := k1; exact DataW.trod_lt m _ _ _ hm
  obtain ⟨z1, w1⟩ : ∃ zs, IsRow .i64 W a1 len1 cap1 zs := by
    obtain ⟨fuel, hf⟩ := h1
    rcases open_ints Try.underlying22 Try.underlying3 (by kernel_rfl) hf with ⟨hcs, _⟩ | ⟨x, l, c, zs, hcs, _, hl, hm, hz, _, hcell, hwz⟩
    · simp [Value.cells] at hcs
      obtain ⟨rfl, rfl, rfl⟩ := hcs
      exact ⟨[], .inl ⟨rfl, rfl, rfl, rfl⟩⟩
    · simp [Value.cells] at hcs
      obtain ⟨rfl, rfl, rfl⟩ := hcs
      exact ⟨zs, .inr ⟨_, rfl, hl, hm, by simpa using hz, hcell, hwz⟩⟩
  obtain ⟨a2, rfl, rfl, rfl, w2⟩ := open_int Try.underlying3 (hval 2 3 v2 rfl rfl) h2
  obtain ⟨a3, rfl, rfl, rfl, w3⟩ := open_int Try.underlying3 (hval 3 3 v3 rfl rfl) h3
  clear hA0 hval0
  refine (walk a0 len0 cap0 z0 a1 len1 cap1 z1 a2 a3 W w0 w1 w2 w3).mono fun e W' ⟨he, bel⟩ => ?_
  subst he
  exact ⟨_, rfl, _, _, _, [], _, [], hW', trodAll_mk1 (shut_bool Try.underlying4 _), (trodAll_cons_mk (Below.trod laidOut (by kernel_rfl) (of_decide_eq_true (by kernel_rfl)) k0 bel lt0) (trodAll_cons_mk (Below.trod laidOut (by kernel_rfl) (of_decide_eq_true (by kernel_rfl)) k1 bel lt1) (trodAll_cons_mk (shut_int Try.underlying3 w2) (trodAll_cons_mk (shut_int Try.underlying3 w3) trodAll_mk0)))), rfl, bel.frame _, fun h => by cases h⟩

theorem over : Rows.loseBetweenRow.holds Try.pinned (OpenSpec.ofChange Rows.loseBetweenSpec) :=
  OpenClaim.holds_of_wide 3 Try.f3 rfl rfl rfl rfl rfl rfl rfl ⟨rfl, rfl, rfl, rfl, rfl⟩ rfl rfl rfl rfl rfl (by kernel_rfl) Try.func3 (by kernel_rfl)
    (of_decide_eq_true (by kernel_rfl)) (by unfold Func.isWrapper; first | (rw [if_pos (by decide +kernel)]; kernel_rfl) | (rw [if_neg (by decide +kernel)]; exact ⟨rfl, rfl⟩))
    (fun os started H enc _ => lifted os started H enc)

/-- ████ THE STATEMENT ████ -/
theorem proved : Rows.LoseBetweenSaid := over
#print axioms proved
end Go.Proofs.Ytdcidpgabhbhbaa.loseBetween
