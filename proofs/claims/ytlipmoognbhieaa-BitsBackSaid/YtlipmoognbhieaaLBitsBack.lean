/-
  The law BitsBack: what is put is got, whatever stands around it, and what is got is put as these bits; any number, size, bytes around (at most 1000 on each side, the law's own bound), and place. No condition.
-/
import Derived.Test.YtlipmoognbhieaaRows
import Derived.WalkKit
import Derived.ProofKit
import Derived.OpenShut
import Derived.ShutString
import Derived.ChangeOld
import Derived.Below
import Derived.Test.YtlipmoognbhieaaBitsL
import Derived.BigQuiet
import Derived.Deep.QuietTactic
namespace Go.Proofs.Ytlipmoognbhieaa.bitsBack
open Go.ChangeShapes Go.WideShapes Go.ChangeAt Go.RowKit
open Go.ChangeMaps (open_string shut_string)
open Go.Proofs.Ytlipmoognbhieaa
set_option linter.unusedVariables false

theorem own : ownKnob Try.prog.godebug = none := by kernel_rfl
theorem laidOut : laidOutB Try.prog = true := by kernel_rfl

set_option maxHeartbeats 1600000 in
theorem walk (a0 : Int) (a1 : Int) (a2 : Option Addr) (len2 cap2 : Nat) (z2 : List Int) (a3 : Option Addr) (len3 cap3 : Nat) (z3 : List Int) (a4 : Int) (w : World) (w0 : (Lit.int .i64 a0).wf = true) (w1 : (Lit.int .i64 a1).wf = true) (w2 : IsRow .u8 w a2 len2 cap2 z2) (w3 : IsRow .u8 w a3 len3 cap3 z3) (w4 : (Lit.int .i64 a4).wf = true) :
    Calls Try.prog 5 #[.int .i64 a0, .int .i64 a1, .slice a2 len2 cap2, .slice a3 len3 cap3, .int .i64 a4] w fun e w' => e = .returned (.bool true) ∧ Below w.heap.size w w' := by
  have Hx := hid w2.rd
  have Hin := hid (In.of_wf_u8 w2.wf)
  have Hy := hid w3.rd
  have Hiy := hid (In.of_wf_u8 w3.wf)
  have Hnx := hid w2.nilcap
  have Hny := hid w3.nilcap
  have hm2 := w2.len.1
  have hm3 := w3.len.1
  have hcg := w3.capGe
  have hn0 := wf_i64_bd w0
  have hn4 := wf_i64_bd w4
  unfold maxLen at hm2 hm3
  generalize z2.take len2 = xs at Hx Hin
  generalize z3.take len3 = ys at Hy Hiy
  clear w0 w1 w2 w3 w4
  have H0 := hid (alive_any w)
  by_cases hbig : 1000 < len2
  · go_enter Try.func5, Try.ntmps5
    go_wp2_with fail
    refine H0.out.mono ?_
    rintro e w1 ⟨rfl, hb⟩
    go_wp2
    go_ret
    exact ⟨rfl, hb⟩
  by_cases hbig1 : 1000 < len3
  · go_enter Try.func5, Try.ntmps5
    go_wp2_with fail
    refine H0.out.mono ?_
    rintro e w1 ⟨rfl, hb⟩
    go_wp2
    go_ret
    exact ⟨rfl, hb⟩
  by_cases hok : putOk a0 a1 = true
  case neg =>
    have hno : putOk a0 a1 = false := by simpa using hok
    have PL0 := hid (putL_no (b := xs) hno)
    have PE0 := hid (putE_no hno)
    clear hok hno
    go_enter Try.func5, Try.ntmps5
    go_wp2_with fail
    refine H0.out.mono ?_
    rintro e w1 ⟨rfl, b1⟩
    clear H0
    have r1 := hid (put_any a2 len2 cap2 xs a0 a1 w1 (Hx.out.below b1 (Nat.le_refl _)) (by omega) Hnx.out hn0)
    go_wp2_with fail
    refine r1.out.mono ?_
    rw [PL0.out, PE0.out]
    intro e X hr
    obtain ⟨A1, c1, rfl, _, _, _, hb2⟩ := hr.opens (n := 0) rfl
    have bX := b1.trans (hb2.mono b1.size)
    clear r1 hr hb2 b1 PL0 PE0
    have hyX := Hy.out.below bX (Nat.le_refl _)
    have r5 := hid (get_any a3 len3 cap3 ys a4 a1 X hyX (by omega) (fun k => Hiy.out.at_ (by omega) (by omega) k) hn4)
    go_wp2_with fail
    refine r5.out.mono ?_
    rintro e X ⟨rfl, rfl⟩
    clear r5
    by_cases hg : getE ys a4 a1 = 0
    case neg =>
      rw [getN_no hg, getP_no hg]
      have hgb : (getE ys a4 a1 != 0) = true := by simp; exact hg
      generalize getE ys a4 a1 = g5 at *
      go_wp2
      go_ret
      exact ⟨rfl, bX⟩
    case pos =>
      obtain ⟨z1, z2', z3', z4⟩ := getE_zero hg
      obtain ⟨at_, rfl⟩ : ∃ at_ : Nat, a4 = at_ := Int.eq_ofNat_of_zero_le z3'
      obtain ⟨sz, rfl⟩ : ∃ sz : Nat, a1 = sz := Int.eq_ofNat_of_zero_le z1
      have hyl : ys.length = len3 := Hy.out.1
      have hfit : at_ + sz ≤ len3 := by rw [hyl] at z4; omega
      obtain ⟨g1, g2, g3, g4⟩ := got_put (ys := ys) (a := at_) (s := sz) (fun y hy => (Hiy.out y hy).1) (by omega) (by omega) hg
      rw [g1, g2, hg]
      have PL := hid (putL_nat (b := []) (s := sz) (by omega) g3)
      have PE := hid (putE_yes (putOk_nat (s := sz) (by omega) g3))
      have G4 := hid g4
      have hvb : numOf ((ys.drop at_).take sz) < 2147483648 := Nat.lt_of_lt_of_le g3 (Nat.pow_le_pow_right (by omega) (show sz ≤ 31 by omega))
      have r6 := hid (put_any none 0 0 [] (numOf ((ys.drop at_).take sz) : Int) (sz : Int) X Rd.nil (by omega) (fun _ => rfl) (by omega))
      clear g1 g2 g3 g4 hg
      go_wp2_with fail
      refine r6.out.mono ?_
      rw [PL.out, PE.out, List.nil_append, G4.out]
      intro e Y hr
      obtain ⟨AC, cC, rfl, _, hrdC, _, hbY⟩ := hr.opens (n := sz) (by rw [List.length_take, List.length_drop, hyl]; omega)
      have bY := bX.trans (hbY.mono bX.size)
      have hyY := Hy.out.below bY (Nat.le_refl _)
      clear r6 hr hbY PL PE G4 hyX
      have hs1 : (0 : Int) ≤ (at_ : Int) := by omega
      have hs2 : (at_ : Int) ≤ (at_ : Int) + sz := by omega
      have hs3 : (at_ : Int) + sz ≤ (cap3 : Int) := by omega
      have hcc := fun q : Nat => run_bytes_str (P := Try.prog) Try.underlying22 Try.underlying5 Try.underlying9 (hrdC.drewN q) cC
      have hsl := (hyY.sliced at_ (at_ + sz) (by omega) hfit hcg)
      rw [show at_ + sz - at_ = sz by omega] at hsl
      have hcy := fun q : Nat => run_bytes_str (P := Try.prog) Try.underlying22 Try.underlying5 Try.underlying9 (hsl.drewN q) (cap3 - at_)
      clear hyY hrdC hsl
      go_wp2_with fail
      go_quiet (fail)
      all_goals go_wp2
      all_goals go_ret
      all_goals exact ⟨rfl, below_drewN bY _⟩
  case pos =>
    obtain ⟨n, rfl⟩ : ∃ n : Nat, a0 = n := Int.eq_ofNat_of_zero_le (by unfold putOk at hok; have := of_decide_eq_true hok; omega)
    obtain ⟨s, rfl⟩ : ∃ s : Nat, a1 = s := Int.eq_ofNat_of_zero_le (by unfold putOk at hok; have := of_decide_eq_true hok; omega)
    have hs31 : s ≤ 31 := by unfold putOk at hok; have := of_decide_eq_true hok; omega
    have hlt : n < 2 ^ s := by
      rcases Nat.lt_or_ge n (2 ^ s) with h | h
      · exact h
      · rw [putOk_big h] at hok; cases hok
    have PL := hid (putL_nat (b := xs) hs31 hlt)
    have PE := hid (putE_yes hok)
    have BG := hid (back_get xs ys n s len2 Hx.out.1 hs31 hlt)
    have HT := hid (show (xs ++ bitsOf n s).take len2 = xs by rw [← Hx.out.1]; exact List.take_left)
    have LP := hid (show (xs ++ bitsOf n s).length = len2 + s by rw [List.length_append, bitsOf_len, Hx.out.1])
    clear hok hlt
    go_enter Try.func5, Try.ntmps5
    go_wp2_with fail
    refine H0.out.mono ?_
    rintro e w1 ⟨rfl, b1⟩
    clear H0
    have r1 := hid (put_any a2 len2 cap2 xs n s w1 (Hx.out.below b1 (Nat.le_refl _)) (by omega) Hnx.out hn0)
    go_wp2_with fail
    refine r1.out.mono ?_
    rw [PL.out, PE.out]
    intro e w2 hr
    obtain ⟨A1, c1, rfl, hown1, hrd1, hnil1, hb2⟩ := hr.opens LP.out
    have b2 := b1.trans (hb2.mono b1.size)
    have hcap1 := hown1.capGe
    clear r1 hr hb2 b1 hown1 PL PE
    have he := Own.empty (B := w2.heap.size) (ty := 5) (k := .u8) w2 (Nat.le_refl _)
    have be := (Below.refl w2.heap.size w2).alloc (Nat.le_refl _) (.cells #[] 5)
    have bes := be.size
    have hrd1' := hrd1.below be (Nat.le_refl _)
    have hlen1 : ([] : List Int).length + (len2 + s) < 17592186044416 := by simp; omega
    have hlen2 : ([] ++ (xs ++ bitsOf n s)).length + len3 < 17592186044416 := by rw [List.nil_append, LP.out]; omega
    go_wp2_with (first
      | (at_builtin; refine wpList_join _ rfl _ _ _ rfl 5 .u8 1 Try.underlying22 Try.info_u8 (by omega) w2.heap.size w2 _ _ _ _ _ _ he hrd1' hnil1 be bes hlen1 rfl rfl ?_; intro v3 w3 hown3 b3 hs23 hg3; clear he; have hy3 := Hy.out.below (b2.trans (b3.mono b2.size)) (Nat.le_refl _); have b3s := b3.size)
      | (at_builtin; refine wpList_join _ rfl _ _ _ rfl 5 .u8 1 Try.underlying22 Try.info_u8 (by omega) w2.heap.size w2 _ _ _ _ _ _ hown3 hy3 Hny.out b3 b3s hlen2 rfl rfl ?_; intro v4 w4 hown4 b4 hs34 hg4))
    rw [List.nil_append] at hown4
    obtain ⟨A4, c4, rfl, hrd4, _, _⟩ := hown4.forms (n := len2 + s + len3) (by rw [List.length_append, LP.out, Hy.out.1])
    have hrdb := hrd1.below b4 (Nat.le_refl _)
    have bb := b2.trans (b4.mono b2.size)
    have hpos : ∀ k : Nat, 0 ≤ (xs ++ bitsOf n s ++ ys)[k]?.getD 0 ∧ (xs ++ bitsOf n s ++ ys)[k]?.getD 0 ≤ 255 := fun k =>
      In.at_ (lo := 0) (hi := 255) (fun x hx => by
        rcases List.mem_append.1 hx with h | h
        · rcases List.mem_append.1 h with h | h
          · exact Hin.out x h
          · rcases bitsOf_bit n s x h with rfl | rfl <;> omega
        · exact Hiy.out x h) (by omega) (by omega) k
    have r4 := hid (get_any A4 _ c4 _ (len2 : Int) (s : Int) w4 hrd4 (by omega) hpos (by omega))
    clear hown3 hown4 hy3 hrd4 b4 b3 hg3 hg4 hrd1' be bes hlen1 hlen2 hs23 hs34 b3s hpos
    refine r4.out.mono ?_
    rw [BG.out.1, BG.out.2.1, BG.out.2.2]
    rintro e w4 ⟨rfl, rfl⟩
    clear r4
    go_wp2
    have hbnd : (len2 : Int) ≤ (c1 : Int) := by omega
    have hx4 := Hx.out.below bb (Nat.le_refl _)
    have hcb := fun q : Nat => run_bytes_str (P := Try.prog) Try.underlying22 Try.underlying5 Try.underlying9 ((hrdb.take len2 (by omega)).drewN q) c1
    have hca := fun q : Nat => run_bytes_str (P := Try.prog) Try.underlying22 Try.underlying5 Try.underlying9 (hx4.drewN q) cap2
    rw [HT.out] at hcb
    clear hx4 hrdb HT
    go_quiet (fail)
    have bX : Below w.heap.size w (w4.drewN nq) := below_drewN bb nq
    clear hca hcb bb BG hrd1 hnil1 LP
    generalize w4.drewN nq = X at *
    have hyX := Hy.out.below bX (Nat.le_refl _)
    have r5 := hid (get_any a3 len3 cap3 ys a4 (s : Int) X hyX (by omega) (fun k => Hiy.out.at_ (by omega) (by omega) k) hn4)
    go_wp2_with fail
    refine r5.out.mono ?_
    rintro e X ⟨rfl, rfl⟩
    clear r5
    by_cases hg : getE ys a4 (s : Int) = 0
    case neg =>
      rw [getN_no hg, getP_no hg]
      have hgb : (getE ys a4 (s : Int) != 0) = true := by simp; exact hg
      generalize getE ys a4 (s : Int) = g5 at *
      go_wp2
      go_ret
      exact ⟨rfl, bX⟩
    case pos =>
      obtain ⟨z1, z2', z3', z4⟩ := getE_zero hg
      obtain ⟨at_, rfl⟩ : ∃ at_ : Nat, a4 = at_ := Int.eq_ofNat_of_zero_le z3'
      generalize s = sz at *
      have hyl : ys.length = len3 := Hy.out.1
      have hfit : at_ + sz ≤ len3 := by rw [hyl] at z4; omega
      obtain ⟨g1, g2, g3, g4⟩ := got_put (ys := ys) (a := at_) (s := sz) (fun y hy => (Hiy.out y hy).1) (by omega) (by omega) hg
      rw [g1, g2, hg]
      have PL := hid (putL_nat (b := []) (s := sz) (by omega) g3)
      have PE := hid (putE_yes (putOk_nat (s := sz) (by omega) g3))
      have G4 := hid g4
      have hvb : numOf ((ys.drop at_).take sz) < 2147483648 := Nat.lt_of_lt_of_le g3 (Nat.pow_le_pow_right (by omega) (show sz ≤ 31 by omega))
      have r6 := hid (put_any none 0 0 [] (numOf ((ys.drop at_).take sz) : Int) (sz : Int) X Rd.nil (by omega) (fun _ => rfl) (by omega))
      clear g1 g2 g3 g4 hg
      go_wp2_with fail
      refine r6.out.mono ?_
      rw [PL.out, PE.out, List.nil_append, G4.out]
      intro e Y hr
      obtain ⟨AC, cC, rfl, _, hrdC, _, hbY⟩ := hr.opens (n := sz) (by rw [List.length_take, List.length_drop, hyl]; omega)
      have bY := bX.trans (hbY.mono bX.size)
      have hyY := Hy.out.below bY (Nat.le_refl _)
      clear r6 hr hbY PL PE G4 hyX
      have hs1 : (0 : Int) ≤ (at_ : Int) := by omega
      have hs2 : (at_ : Int) ≤ (at_ : Int) + sz := by omega
      have hs3 : (at_ : Int) + sz ≤ (cap3 : Int) := by omega
      have hcc := fun q : Nat => run_bytes_str (P := Try.prog) Try.underlying22 Try.underlying5 Try.underlying9 (hrdC.drewN q) cC
      have hsl := (hyY.sliced at_ (at_ + sz) (by omega) hfit hcg)
      rw [show at_ + sz - at_ = sz by omega] at hsl
      have hcy := fun q : Nat => run_bytes_str (P := Try.prog) Try.underlying22 Try.underlying5 Try.underlying9 (hsl.drewN q) (cap3 - at_)
      clear hyY hrdC hsl
      go_wp2_with fail
      go_quiet (fail)
      all_goals go_wp2
      all_goals go_ret
      all_goals exact ⟨rfl, below_drewN bY _⟩

/-! ### THE ROW's STEP: WRITTEN OUT: LEAVE IT -/
set_option maxRecDepth 100000 in
theorem lifted (os : Os) (started : os.Started) (H : Type) (enc : TypeId × Value → H) :
    ReturnsInHanded {} Try.checked os 5 .any (Rows.bitsBackSpec.pre6 enc Try.prog Try.f5 Rows.bitsBackRow.domain false) (Rows.bitsBackSpec.post enc Try.prog Try.f5 false true false false) := by
  refine returnsInHanded_of_change (C := Try.checked) own started (by kernel_rfl) Try.func5
    (ChangeSpec.witness6 (enc := enc) (C := Try.checked) false ⟨#[], #[.int .i64 0, .int .i64 0, .slice none 0 0, .slice none 0 0, .int .i64 0], []⟩ 8 (by kernel_rfl) (by kernel_rfl) (by kernel_rfl) (by kernel_rfl)) ?_
  intro W base args ds gs before hval0 hW hcnd _
  have hval : ∀ (j : Nat) t v, Try.f5.params[j]? = some t → args[j]? = some v → Value.okWide Try.prog W .any base t v := hval0
  have hW' := hW
  obtain ⟨p, q, hA0, hV, rfl, hfz, hnd⟩ := hW
  have hA : DataW.TrodAll enc Try.prog W 0 (fun _ => true) true Try.f5.params.toList args.toList ds p := hA0
  rw [Try.params5] at hA hval
  obtain ⟨v0, vs0, d0, ds0, p0, q0, hargs, rfl, rfl, h0, r0⟩ := trodAll_cons hA
  obtain ⟨v1, vs1, d1, ds1, p1, q1, rfl, rfl, rfl, h1, r1⟩ := trodAll_cons r0
  obtain ⟨v2, vs2, d2, ds2, p2, q2, rfl, rfl, rfl, h2, r2⟩ := trodAll_cons r1
  obtain ⟨v3, vs3, d3, ds3, p3, q3, rfl, rfl, rfl, h3, r3⟩ := trodAll_cons r2
  obtain ⟨v4, vs4, d4, ds4, p4, q4, rfl, rfl, rfl, h4, r4⟩ := trodAll_cons r3
  obtain ⟨rfl, rfl, rfl⟩ := trodAll_nil r4
  obtain rfl : args = #[v0, v1, v2, v3, v4] := by cases args; simp_all
  obtain ⟨rfl, rfl⟩ := trodVars_none hV
  obtain ⟨a0, rfl, rfl, rfl, w0⟩ := open_int Try.underlying3 (hval 0 3 v0 rfl rfl) h0
  obtain ⟨a1, rfl, rfl, rfl, w1⟩ := open_int Try.underlying3 (hval 1 3 v1 rfl rfl) h1
  obtain ⟨a2, len2, cap2, rfl⟩ := okWide_slice Try.underlying22 (hval 2 22 v2 rfl rfl)
  have k2 := h2
  have lt2 : ∀ x ∈ p2, x.block < W.heap.size := by obtain ⟨m, hm⟩ := k2; exact DataW.trod_lt m _ _ _ hm
  obtain ⟨z2, w2⟩ : ∃ zs, IsRow .u8 W a2 len2 cap2 zs := by
    obtain ⟨fuel, hf⟩ := h2
    rcases open_ints Try.underlying22 Try.underlying5 (by kernel_rfl) hf with ⟨hcs, _⟩ | ⟨x, l, c, zs, hcs, _, hl, hm, hz, _, hcell, hwz⟩
    · simp [Value.cells] at hcs
      obtain ⟨rfl, rfl, rfl⟩ := hcs
      exact ⟨[], .inl ⟨rfl, rfl, rfl, rfl⟩⟩
    · simp [Value.cells] at hcs
      obtain ⟨rfl, rfl, rfl⟩ := hcs
      exact ⟨zs, .inr ⟨_, rfl, hl, hm, by simpa using hz, hcell, hwz⟩⟩
  obtain ⟨a3, len3, cap3, rfl⟩ := okWide_slice Try.underlying22 (hval 3 22 v3 rfl rfl)
  have k3 := h3
  have lt3 : ∀ x ∈ p3, x.block < W.heap.size := by obtain ⟨m, hm⟩ := k3; exact DataW.trod_lt m _ _ _ hm
  obtain ⟨z3, w3⟩ : ∃ zs, IsRow .u8 W a3 len3 cap3 zs := by
    obtain ⟨fuel, hf⟩ := h3
    rcases open_ints Try.underlying22 Try.underlying5 (by kernel_rfl) hf with ⟨hcs, _⟩ | ⟨x, l, c, zs, hcs, _, hl, hm, hz, _, hcell, hwz⟩
    · simp [Value.cells] at hcs
      obtain ⟨rfl, rfl, rfl⟩ := hcs
      exact ⟨[], .inl ⟨rfl, rfl, rfl, rfl⟩⟩
    · simp [Value.cells] at hcs
      obtain ⟨rfl, rfl, rfl⟩ := hcs
      exact ⟨zs, .inr ⟨_, rfl, hl, hm, by simpa using hz, hcell, hwz⟩⟩
  obtain ⟨a4, rfl, rfl, rfl, w4⟩ := open_int Try.underlying3 (hval 4 3 v4 rfl rfl) h4
  clear hA0 hval0
  refine (walk a0 a1 a2 len2 cap2 z2 a3 len3 cap3 z3 a4 W w0 w1 w2 w3 w4).mono fun e W' ⟨he, bel⟩ => ?_
  subst he
  exact ⟨_, rfl, _, _, _, [], _, [], hW', trodAll_mk1 (shut_bool Try.underlying4 _), (trodAll_cons_mk (shut_int Try.underlying3 w0) (trodAll_cons_mk (shut_int Try.underlying3 w1) (trodAll_cons_mk (Below.trod laidOut (by kernel_rfl) (of_decide_eq_true (by kernel_rfl)) k2 bel lt2) (trodAll_cons_mk (Below.trod laidOut (by kernel_rfl) (of_decide_eq_true (by kernel_rfl)) k3 bel lt3) (trodAll_cons_mk (shut_int Try.underlying3 w4) trodAll_mk0))))), rfl, bel.frame _, fun h => by cases h⟩

theorem over : Rows.bitsBackRow.holds Try.pinned (OpenSpec.ofChange Rows.bitsBackSpec) :=
  OpenClaim.holds_of_wide 5 Try.f5 rfl rfl rfl rfl rfl rfl rfl ⟨rfl, rfl, rfl, rfl, rfl⟩ rfl rfl rfl rfl rfl (by kernel_rfl) Try.func5 (by kernel_rfl)
    (of_decide_eq_true (by kernel_rfl)) (by unfold Func.isWrapper; first | (rw [if_pos (by decide +kernel)]; kernel_rfl) | (rw [if_neg (by decide +kernel)]; exact ⟨rfl, rfl⟩))
    (fun os started H enc _ => lifted os started H enc)

/-- ████ THE STATEMENT ████ -/
theorem proved : Rows.BitsBackSaid := over
#print axioms proved
end Go.Proofs.Ytlipmoognbhieaa.bitsBack
