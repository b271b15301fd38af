/-
  The law BitsSplit: a number's bits are those of its high part, and those of its low part, one behind the other; any number and two sizes. No condition.
-/
import Derived.Test.YtlipmoognbhieaaRows
import Derived.WalkKit
import Derived.ProofKit
import Derived.OpenShut
import Derived.ShutString
import Derived.Test.YtlipmoognbhieaaBitsL
namespace Go.Proofs.Ytlipmoognbhieaa.bitsSplit
open Go.ChangeShapes Go.WideShapes Go.ChangeAt Go.RowKit
open Go.ChangeMaps (open_string shut_string)
open Go.Proofs.Ytlipmoognbhieaa
set_option linter.unusedVariables false      -- a walk need not use every 'w<i>' (that an integer argument fits its kind)

theorem own : ownKnob Try.prog.godebug = none := by kernel_rfl

theorem wf_u8_bd {n : Int} (h : (Lit.int .u8 n).wf = true) : 0 ≤ n ∧ n ≤ 255 := (In.of_wf_u8 (xs := [n]) (fun x hx => by simp at hx; subst hx; exact h)) n (by simp)

set_option maxHeartbeats 1600000 in
theorem walk (a0 : Int) (a1 : Int) (a2 : Int) (w0 : (Lit.int .i64 a0).wf = true) (w1 : (Lit.int .u8 a1).wf = true) (w2 : (Lit.int .u8 a2).wf = true) (w : World) :
    Calls Try.prog 6 #[.int .i64 a0, .int .u8 a1, .int .u8 a2] w fun e w' => e = .returned (.bool true) ∧ Below w.heap.size w w' := by
  obtain ⟨h1, h2⟩ := wf_u8_bd w1
  obtain ⟨h3, h4⟩ := wf_u8_bd w2
  obtain ⟨h5, h6⟩ := wf_i64_bd w0
  clear w0 w1 w2
  obtain ⟨a, ha⟩ := Int.eq_ofNat_of_zero_le (show 0 ≤ a1 % 16 by omega)
  obtain ⟨b, hb⟩ := Int.eq_ofNat_of_zero_le (show 0 ≤ a2 % 16 by omega)
  have ha15 : a ≤ 15 := by omega
  have hb15 : b ≤ 15 := by omega
  have HA := hid ha
  have HB := hid hb
  clear ha hb
  have Hs := hid (show ((a : Int) + (b : Int)) = ((a + b : Nat) : Int) by omega)
  by_cases hneg : a0 < 0
  · have e : putOk a0 ((a + b : Nat) : Int) = false := putOk_neg hneg
    have PL := hid (putL_no (b := []) e)
    have PE := hid (putE_no e)
    have r1 := hid (put_any none 0 0 [] a0 ((a + b : Nat) : Int) w Rd.nil (by omega) (fun _ => rfl) ⟨h5, h6⟩)
    clear e
    go_enter Try.func6, Try.ntmps6
    go_wp2_with fail
    rw [HA.out, HB.out, Hs.out]
    refine r1.out.mono ?_
    rw [PL.out, PE.out]
    intro e w1 hr
    obtain ⟨A1, c1, rfl, _, _, _, b1⟩ := hr.opens (n := 0) rfl
    clear r1 hr
    go_wp2_with fail
    refine (alive_any w1).mono ?_
    rintro e w2 ⟨rfl, hb2⟩
    have b2 := b1.trans (hb2.mono b1.size)
    go_wp2
    go_ret
    exact ⟨rfl, b2⟩
  obtain ⟨n, rfl⟩ := Int.eq_ofNat_of_zero_le (show 0 ≤ a0 by omega)
  have hsh := shr_zero n (a + b)
  have r1 := hid (put_any none 0 0 [] n ((a + b : Nat) : Int) w Rd.nil (by omega) (fun _ => rfl) ⟨h5, h6⟩)
  by_cases hbig : 2 ^ (a + b) ≤ n
  · have e : putOk n ((a + b : Nat) : Int) = false := putOk_big hbig
    have PL := hid (putL_no (b := []) e)
    have PE := hid (putE_no e)
    rw [decide_eq_true hbig] at hsh
    clear e hbig
    go_enter Try.func6, Try.ntmps6
    go_wp2_with fail
    rw [HA.out, HB.out, Hs.out]
    refine r1.out.mono ?_
    rw [PL.out, PE.out]
    intro e w1 hr
    obtain ⟨A1, c1, rfl, _, _, _, b1⟩ := hr.opens (n := 0) rfl
    clear r1 hr
    go_wp2_with fail
    refine (alive_any w1).mono ?_
    rintro e w2 ⟨rfl, hb2⟩
    have b2 := b1.trans (hb2.mono b1.size)
    go_wp2
    go_ret
    exact ⟨rfl, b2⟩
  · have hlt : n < 2 ^ (a + b) := by omega
    have hab : a + b ≤ 31 := by omega
    have hhi : n / 2 ^ b < 2 ^ a := by
      rw [Nat.div_lt_iff_lt_mul (Nat.pow_pos (by omega)), ← Nat.pow_add]
      exact hlt
    have hlo : n % 2 ^ b < 2 ^ b := Nat.mod_lt _ (Nat.pow_pos (by omega))
    have PL := hid (putL_nat (b := []) hab hlt)
    have PE := hid (putE_yes (putOk_nat hab hlt))
    have PLy := hid (putL_nat (b := []) (s := a) (by omega) hhi)
    have PEy := hid (putE_yes (putOk_nat (s := a) (by omega) hhi))
    have PLz := hid (putL_nat (b := bitsOf (n / 2 ^ b) a) (s := b) (by omega) hlo)
    have PEz := hid (putE_yes (putOk_nat (s := b) (by omega) hlo))
    have HC := hid (bitsOf_add n a b)
    have HD := hid (show (n : Int) / (2 : Int) ^ b = ((n / 2 ^ b : Nat) : Int) by push_cast; rfl)
    have hdle : n / 2 ^ b ≤ n := Nat.div_le_self _ _
    have hmle : n % 2 ^ b ≤ n := Nat.mod_le _ _
    clear hbig hlt hhi hlo hsh
    go_enter Try.func6, Try.ntmps6
    go_wp2_with fail
    rw [HA.out, HB.out, Hs.out]
    refine r1.out.mono ?_
    rw [PL.out, PE.out, List.nil_append]
    intro e w1 hr
    obtain ⟨A1, c1, rfl, _, hrd1, _, b1⟩ := hr.opens (bitsOf_len n (a + b))
    clear r1 hr
    go_wp2_with fail
    rw [HD.out]
    have r2 := hid (put_any none 0 0 [] ((n / 2 ^ b : Nat) : Int) a w1 Rd.nil (by omega) (fun _ => rfl) (by generalize n / 2 ^ b = q at hdle ⊢; omega))
    refine r2.out.mono ?_
    rw [PLy.out, PEy.out, List.nil_append]
    intro e w2 hr
    obtain ⟨A2, c2, rfl, _, hrd2, hnil2, hb2⟩ := hr.opens (bitsOf_len (n / 2 ^ b) a)
    have b2 := b1.trans (hb2.mono b1.size)
    have hrd1 := hrd1.below hb2 (Nat.le_refl _)
    clear r2 hr
    go_wp2_with fail
    rw [mask_i64 n b (by omega) (by omega)]
    have r3 := hid (put_any A2 a c2 (bitsOf (n / 2 ^ b) a) ((n % 2 ^ b : Nat) : Int) b w2 hrd2 (by omega) hnil2 (by generalize n % 2 ^ b = q at hmle ⊢; omega))
    refine r3.out.mono ?_
    rw [PLz.out, PEz.out]
    intro e w3 hr
    obtain ⟨A3, c3, rfl, _, hrd3, _, hb3⟩ := hr.opens (n := a + b) (by rw [List.length_append, bitsOf_len, bitsOf_len])
    have b3 := b2.trans (hb3.mono b2.size)
    have hrd1 := hrd1.below hb3 (Nat.le_refl _)
    clear r3 hr hrd2
    go_wp2_with fail
    refine (alive_any w3).mono ?_
    rintro e w4 ⟨rfl, hb4⟩
    have b4 := b3.trans (hb4.mono b3.size)
    have hcx := run_bytes_str (P := Try.prog) Try.underlying22 Try.underlying5 Try.underlying9 (hrd1.below hb4 (Nat.le_refl _)) c1
    have hcz := run_bytes_str (P := Try.prog) Try.underlying22 Try.underlying5 Try.underlying9 (hrd3.below hb4 (Nat.le_refl _)) c3
    rw [← HC.out] at hcz
    clear hrd1 hrd3 PL PE PLy PEy PLz PEz HC HD hb4
    go_wp2
    go_ret
    exact ⟨rfl, b4⟩

/-! ### THE ROW's STEP: WRITTEN OUT: LEAVE IT -/
set_option maxRecDepth 100000 in
theorem lifted (os : Os) (started : os.Started) (H : Type) (enc : TypeId × Value → H) :
    ReturnsInHanded {} Try.checked os 6 .any (Rows.bitsSplitSpec.pre6 enc Try.prog Try.f6 Rows.bitsSplitRow.domain false) (Rows.bitsSplitSpec.post enc Try.prog Try.f6 false true false false) := by
  refine returnsInHanded_of_change (C := Try.checked) own started (by kernel_rfl) Try.func6
    (ChangeSpec.witness6 (enc := enc) (C := Try.checked) false ⟨#[], #[.int .i64 0, .int .u8 0, .int .u8 0], []⟩ 8 (by kernel_rfl) (by kernel_rfl) (by kernel_rfl) (by kernel_rfl)) ?_
  intro W base args ds gs before hval0 hW hcnd _
  have hval : ∀ (j : Nat) t v, Try.f6.params[j]? = some t → args[j]? = some v → Value.okWide Try.prog W .any base t v := hval0
  have hW' := hW
  obtain ⟨p, q, hA0, hV, rfl, hfz, hnd⟩ := hW
  have hA : DataW.TrodAll enc Try.prog W 0 (fun _ => true) true Try.f6.params.toList args.toList ds p := hA0
  rw [Try.params6] at hA hval
  obtain ⟨v0, vs0, d0, ds0, p0, q0, hargs, rfl, rfl, h0, r0⟩ := trodAll_cons hA
  obtain ⟨v1, vs1, d1, ds1, p1, q1, rfl, rfl, rfl, h1, r1⟩ := trodAll_cons r0
  obtain ⟨v2, vs2, d2, ds2, p2, q2, rfl, rfl, rfl, h2, r2⟩ := trodAll_cons r1
  obtain ⟨rfl, rfl, rfl⟩ := trodAll_nil r2
  obtain rfl : args = #[v0, v1, v2] := by cases args; simp_all
  obtain ⟨rfl, rfl⟩ := trodVars_none hV
  obtain ⟨a0, rfl, rfl, rfl, w0⟩ := open_int Try.underlying3 (hval 0 3 v0 rfl rfl) h0
  obtain ⟨a1, rfl, rfl, rfl, w1⟩ := open_int Try.underlying5 (hval 1 5 v1 rfl rfl) h1
  obtain ⟨a2, rfl, rfl, rfl, w2⟩ := open_int Try.underlying5 (hval 2 5 v2 rfl rfl) h2
  clear hA0 hval0
  simp only [List.append_nil] at hW'
  refine (walk a0 a1 a2 w0 w1 w2 W).mono fun e W' ⟨he, bel⟩ => ?_
  subst he
  exact ⟨_, rfl, _, _, _, [], [], [], hW', trodAll_mk1 (shut_bool Try.underlying4 _), (trodAll_cons_mk (shut_int Try.underlying3 w0) (trodAll_cons_mk (shut_int Try.underlying5 w1) (trodAll_cons_mk (shut_int Try.underlying5 w2) trodAll_mk0))), rfl, bel.frame _, fun h => by cases h⟩

theorem over : Rows.bitsSplitRow.holds Try.pinned (OpenSpec.ofChange Rows.bitsSplitSpec) :=
  OpenClaim.holds_of_wide 6 Try.f6 rfl rfl rfl rfl rfl rfl rfl ⟨rfl, rfl, rfl, rfl, rfl⟩ rfl rfl rfl rfl rfl (by kernel_rfl) Try.func6 (by kernel_rfl)
    (of_decide_eq_true (by kernel_rfl)) (by unfold Func.isWrapper; first | (rw [if_pos (by decide +kernel)]; kernel_rfl) | (rw [if_neg (by decide +kernel)]; exact ⟨rfl, rfl⟩))
    (fun os started H enc _ => lifted os started H enc)

/-- ████ THE STATEMENT ████ -/
theorem proved : Rows.BitsSplitSaid :=
  over
#print axioms proved
end Go.Proofs.Ytlipmoognbhieaa.bitsSplit
