/-
  The law CrcParts: a sum goes on over parts, and the same bits behind turn unlike sums into unlike ones; any three lists of at most 20000 bytes (the law's own bound). No condition.
-/
import Derived.Test.YtjfbgakebldjcaaRows
import Derived.WalkKit
import Derived.ProofKit
import Derived.OpenShut
import Derived.ShutString
import Derived.ChangeOld
import Derived.Below
import Derived.Test.YtjfbgakebldjcaaCrcL
import Derived.Test.YtjfbgakebldjcaaCrcR
namespace Go.Proofs.Ytjfbgakebldjcaa.crcParts
open Go.ChangeShapes Go.WideShapes Go.ChangeAt Go.RowKit
open Go.ChangeMaps (open_string shut_string)
open Go.Proofs.Ytjfbgakebldjcaa
set_option linter.unusedVariables false

theorem own : ownKnob Try.prog.godebug = none := by kernel_rfl
theorem laidOut : laidOutB Try.prog = true := by kernel_rfl

theorem bits_of {a0 : Option Addr} {len0 : Nat} {xs : List Int} {w : World} (Hx : Hid (Rd .u8 w a0 len0 xs)) (Hin : Hid (In 0 255 xs)) (hn : len0 ≤ 20000) (c : Nat) {w1 : World} (hb : Below w.heap.size w w1) :
    Hid (Calls Try.prog 14 #[.slice a0 len0 c] w1 (RetOwn w1 5 .u8 (xs.map (· % 2)))) :=
  hid (bits_any a0 len0 c xs w1 (Hx.out.below hb (Nat.le_refl _)) (fun k => Hin.out.at_ (by omega) (by omega) k) (by omega))

set_option maxHeartbeats 1600000 in
theorem walk (a0 : Option Addr) (len0 cap0 : Nat) (z0 : List Int) (a1 : Option Addr) (len1 cap1 : Nat) (z1 : List Int) (a2 : Option Addr) (len2 cap2 : Nat) (z2 : List Int) (w : World) (w0 : IsRow .u8 w a0 len0 cap0 z0) (w1 : IsRow .u8 w a1 len1 cap1 z1) (w2 : IsRow .u8 w a2 len2 cap2 z2) :
    Calls Try.prog 6 #[.slice a0 len0 cap0, .slice a1 len1 cap1, .slice a2 len2 cap2] w fun e w' => e = .returned (.bool true) ∧ Below w.heap.size w w' := by
  have Hx := hid w0.rd
  have Hin := hid (In.of_wf_u8 w0.wf)
  have Hy := hid w1.rd
  have Hiy := hid (In.of_wf_u8 w1.wf)
  have Hz := hid w2.rd
  have Hiz := hid (In.of_wf_u8 w2.wf)
  have hm0 := w0.len.1
  have hm1 := w1.len.1
  have hm2 := w2.len.1
  unfold maxLen at hm0 hm1 hm2
  generalize z0.take len0 = xs at Hx Hin
  generalize z1.take len1 = ys at Hy Hiy
  generalize z2.take len2 = zs at Hz Hiz
  clear w0 w1 w2
  have H0 := hid (alive_any w)
  by_cases hbig : 20000 < len0
  · go_enter Try.func6, Try.ntmps6
    go_wp2_with fail
    refine H0.out.mono ?_
    rintro e w1 ⟨rfl, hb⟩
    go_wp2
    go_ret
    exact ⟨rfl, hb⟩
  by_cases hbig1 : 20000 < len1
  · go_enter Try.func6, Try.ntmps6
    go_wp2_with fail
    refine H0.out.mono ?_
    rintro e w1 ⟨rfl, hb⟩
    go_wp2
    go_ret
    exact ⟨rfl, hb⟩
  by_cases hbig2 : 20000 < len2
  · go_enter Try.func6, Try.ntmps6
    go_wp2_with fail
    refine H0.out.mono ?_
    rintro e w1 ⟨rfl, hb⟩
    go_wp2
    go_ret
    exact ⟨rfl, hb⟩
  have hbA : Bt (xs.map (· % 2)) := Bt.mod
  have hbB : Bt (ys.map (· % 2)) := Bt.mod
  have hbM : Bt (zs.map (· % 2)) := Bt.mod
  have hlA : (xs.map (· % 2)).length = len0 := by rw [List.length_map]; exact Hx.out.1
  have hlB : (ys.map (· % 2)).length = len1 := by rw [List.length_map]; exact Hy.out.1
  have hlM : (zs.map (· % 2)).length = len2 := by rw [List.length_map]; exact Hz.out.1
  have KX := fun (W : World) (hb : Below w.heap.size w W) => bits_of Hx Hin (by omega) cap0 hb
  have KY := fun (W : World) (hb : Below w.heap.size w W) => bits_of Hy Hiy (by omega) cap1 hb
  have KZ := fun (W : World) (hb : Below w.heap.size w W) => bits_of Hz Hiz (by omega) cap2 hb
  generalize xs.map (· % 2) = A at *
  generalize ys.map (· % 2) = B at *
  generalize zs.map (· % 2) = M at *
  have SA : Hid (overS 65535 A = ((csum 65535 A : Nat) : Int)) := hid (overS_ok (by omega) (by omega) hbA.bitsB)
  have SB : Hid (overS 65535 B = ((csum 65535 B : Nat) : Int)) := hid (overS_ok (by omega) (by omega) hbB.bitsB)
  have SM : Hid (overS 65535 (A ++ M) = ((csum 65535 (A ++ M) : Nat) : Int)) := hid (overS_ok (by omega) (by omega) (hbA.append hbM).bitsB)
  have EM := hid (overE_ok (sum := 65535) (by omega) (by omega) (hbA.append hbM).bitsB)
  have hcA := csum_lt 65535 A (by omega)
  have hcB := csum_lt 65535 B (by omega)
  have hcV := csum_lt (csum 65535 A) M hcA
  have hcW := csum_lt (csum 65535 B) M hcB
  have SV : Hid (overS ((csum 65535 A : Nat) : Int) M = ((csum (csum 65535 A) M : Nat) : Int)) := hid (overS_ok (by omega) (by omega) hbM.bitsB)
  have EV := hid (overE_ok (sum := (csum 65535 A : Nat)) (by omega) (by omega) hbM.bitsB)
  have SW : Hid (overS ((csum 65535 B : Nat) : Int) M = ((csum (csum 65535 B) M : Nat) : Int)) := hid (overS_ok (by omega) (by omega) hbM.bitsB)
  have EW := hid (overE_ok (sum := (csum 65535 B : Nat)) (by omega) (by omega) hbM.bitsB)
  have J := hid (csum_append 65535 A M)
  have I := hid (fun h => csum_inj (s := csum 65535 A) (t := csum 65535 B) hbM hcA hcB h)
  have HA := hid hbA
  have HB := hid hbB
  have HM := hid hbM
  have LA := hid hlA
  have LB := hid hlB
  have LM := hid hlM
  have KX := hid KX
  have KY := hid KY
  have KZ := hid KZ
  clear hbA hbB hbM hlA hlB hlM Hx Hin Hy Hiy Hz Hiz
  go_enter Try.func6, Try.ntmps6
  go_wp2_with fail
  refine H0.out.mono ?_
  rintro e w1 ⟨rfl, b1⟩
  clear H0
  go_wp2_with fail
  refine (KX.out _ b1).out.mono ?_
  intro e w2 hr
  obtain ⟨AA, cA, rfl, hown2, hrd2, hnil2, hb2⟩ := hr.opens LA.out
  have b2 := b1.trans (hb2.mono b1.size)
  clear hr hnil2 hown2 hb2
  go_wp2_with fail
  refine (crc_of AA len0 cA A w2 hrd2 (fun k => (HA.out.pos k).1) (by omega)).mono ?_
  rintro e w3 ⟨rfl, hb3⟩
  have b3 := b2.trans (hb3.mono b2.size)
  rw [SA.out]
  clear hrd2 hb3 b2
  go_wp2_with fail
  refine (KY.out _ b3).out.mono ?_
  intro e w4 hr
  obtain ⟨AB, cB, rfl, hown2, hrd2, hnil2, hb2⟩ := hr.opens LB.out
  have b4 := b3.trans (hb2.mono b3.size)
  clear hr hnil2 hown2 hb2 b3
  go_wp2_with fail
  refine (crc_of AB len1 cB B w4 hrd2 (fun k => (HB.out.pos k).1) (by omega)).mono ?_
  rintro e w5 ⟨rfl, hb3⟩
  have b5 := b4.trans (hb3.mono b4.size)
  rw [SB.out]
  clear hrd2 hb3 b4
  go_wp2_with fail
  refine (KX.out _ b5).out.mono ?_
  intro e w6 hr
  obtain ⟨AC, cC, rfl, hownC, hrdC, hnilC, hb2⟩ := hr.opens LA.out
  have b6 := b5.trans (hb2.mono b5.size)
  have b5s := b5.size
  clear hr hnilC hb2 b5 hrdC
  go_wp2_with fail
  refine (KZ.out _ b6).out.mono ?_
  intro e w7 hr
  obtain ⟨AM, cM, rfl, hownM, hrdM, hnilM, hb2⟩ := hr.opens LM.out
  have b7 := b6.trans (hb2.mono b6.size)
  have hownC' := (hownC.below hb2 (Nat.le_refl _)).mono b5s
  clear hr hb2 b6 hownC hownM
  have b7s := b7.size
  have hsz : A.length + len2 < 17592186044416 := by rw [LA.out]; omega
  go_wp2_with (first | (at_builtin; refine wpList_join _ rfl _ _ _ rfl 5 .u8 1 Try.underlying25 Try.info_u8 (by omega) w.heap.size w _ _ _ _ _ _ hownC' hrdM hnilM b7 b7s hsz rfl rfl ?_; intro v8 w8 hown8 b8 _ _))
  obtain ⟨A8, c8, rfl, hrd8, _, _⟩ := hown8.forms (n := len0 + len2) (by rw [List.length_append, LA.out, LM.out])
  clear hownC' hrdM hnilM b7 hown8
  refine (crc_of A8 _ c8 _ w8 hrd8 (fun k => ((HA.out.append HM.out).pos k).1) (by omega)).mono ?_
  rintro e w9 ⟨rfl, hb3⟩
  have b9 := b8.trans (hb3.mono b8.size)
  rw [SM.out, EM.out]
  clear hrd8 hb3 b8
  go_wp2_with fail
  refine (KZ.out _ b9).out.mono ?_
  intro e w10 hr
  obtain ⟨AN, cN, rfl, hownN, hrdN, hnilN, hb2⟩ := hr.opens LM.out
  have b10 := b9.trans (hb2.mono b9.size)
  clear hr hb2 b9 hownN hnilN
  go_wp2_with fail
  refine (crc_over _ AN len2 cN M w10 hrdN (fun k => (HM.out.pos k).1) (by omega)).mono ?_
  rintro e w11 ⟨rfl, hb3⟩
  have b11 := b10.trans (hb3.mono b10.size)
  rw [SV.out, EV.out]
  clear hrdN hb3 b10
  go_wp2_with fail
  refine (KZ.out _ b11).out.mono ?_
  intro e w12 hr
  obtain ⟨AO, cO, rfl, hownO, hrdO, hnilO, hb2⟩ := hr.opens LM.out
  have b12 := b11.trans (hb2.mono b11.size)
  clear hr hb2 b11 hownO hnilO
  go_wp2_with fail
  refine (crc_over _ AO len2 cO M w12 hrdO (fun k => (HM.out.pos k).1) (by omega)).mono ?_
  rintro e w13 ⟨rfl, hb3⟩
  have b13 := b12.trans (hb3.mono b12.size)
  rw [SW.out, EW.out]
  clear hrdO hb3 b12 SA SB SM EM SV EV SW EW KX KY KZ
  rw [J.out]
  clear J
  have I2 := hid (fun h : csum 65535 A = csum 65535 B => show csum (csum 65535 A) M = csum (csum 65535 B) M by rw [h])
  generalize csum (csum 65535 A) M = v at *
  generalize csum (csum 65535 B) M = u at *
  generalize csum 65535 A = x at *
  generalize csum 65535 B = y at *
  by_cases hv : v = u
  · have hxy : x = y := I.out hv
    subst hv hxy
    clear I I2
    go_wp2
    go_ret
    exact ⟨rfl, b13⟩
  · by_cases hxy : x = y
    · exact absurd (I2.out hxy) hv
    · have e1 : ((v : Int) == (u : Int)) = false := by simp; omega
      have e2 : ((x : Int) == (y : Int)) = false := by simp; omega
      clear I I2
      go_wp2
      go_ret
      exact ⟨rfl, b13⟩

/-! ### THE ROW's STEP: WRITTEN OUT: LEAVE IT -/
set_option maxRecDepth 100000 in
theorem lifted (os : Os) (started : os.Started) (H : Type) (enc : TypeId × Value → H) :
    ReturnsInHanded {} Try.checked os 6 .any (Rows.crcPartsSpec.pre6 enc Try.prog Try.f6 Rows.crcPartsRow.domain false) (Rows.crcPartsSpec.post enc Try.prog Try.f6 false true false false) := by
  refine returnsInHanded_of_change (C := Try.checked) own started (by kernel_rfl) Try.func6
    (ChangeSpec.witness6 (enc := enc) (C := Try.checked) false ⟨#[], #[.slice none 0 0, .slice none 0 0, .slice none 0 0], []⟩ 8 (by kernel_rfl) (by kernel_rfl) (by kernel_rfl) (by kernel_rfl)) ?_
  intro W base args ds gs before hval0 hW hcnd _
  have hval : ∀ (j : Nat) t v, Try.f6.params[j]? = some t → args[j]? = some v → Value.okWide Try.prog W .any base t v := hval0
  have hW' := hW
  obtain ⟨p, q, hA0, hV, rfl, hfz, hnd⟩ := hW
  have hA : DataW.TrodAll enc Try.prog W 0 (fun _ => true) true Try.f6.params.toList args.toList ds p := hA0
  rw [Try.params6] at hA hval
  obtain ⟨v0, vs0, d0, ds0, p0, q0, hargs, rfl, rfl, h0, r0⟩ := trodAll_cons hA
  obtain ⟨v1, vs1, d1, ds1, p1, q1, rfl, rfl, rfl, h1, r1⟩ := trodAll_cons r0
  obtain ⟨v2, vs2, d2, ds2, p2, q2, rfl, rfl, rfl, h2, r2⟩ := trodAll_cons r1
  obtain ⟨rfl, rfl, rfl⟩ := trodAll_nil r2
  obtain rfl : args = #[v0, v1, v2] := by cases args; simp_all
  obtain ⟨rfl, rfl⟩ := trodVars_none hV
  obtain ⟨a0, len0, cap0, rfl⟩ := okWide_slice Try.underlying25 (hval 0 25 v0 rfl rfl)
  have k0 := h0
  have lt0 : ∀ x ∈ p0, x.block < W.heap.size := by obtain ⟨m, hm⟩ := k0; exact DataW.trod_lt m _ _ _ hm
  obtain ⟨z0, w0⟩ : ∃ zs, IsRow .u8 W a0 len0 cap0 zs := by
    obtain ⟨fuel, hf⟩ := h0
    rcases open_ints Try.underlying25 Try.underlying5 (by kernel_rfl) hf with ⟨hcs, _⟩ | ⟨x, l, c, zs, hcs, _, hl, hm, hz, _, hcell, hwz⟩
    · simp [Value.cells] at hcs
      obtain ⟨rfl, rfl, rfl⟩ := hcs
      exact ⟨[], .inl ⟨rfl, rfl, rfl, rfl⟩⟩
    · simp [Value.cells] at hcs
      obtain ⟨rfl, rfl, rfl⟩ := hcs
      exact ⟨zs, .inr ⟨_, rfl, hl, hm, by simpa using hz, hcell, hwz⟩⟩
  obtain ⟨a1, len1, cap1, rfl⟩ := okWide_slice Try.underlying25 (hval 1 25 v1 rfl rfl)
  have k1 := h1
  have lt1 : ∀ x ∈ p1, x.block < W.heap.size := by obtain ⟨m, hm⟩ := k1; exact DataW.trod_lt m _ _ _ hm
  obtain ⟨z1, w1⟩ : ∃ zs, IsRow .u8 W a1 len1 cap1 zs := by
    obtain ⟨fuel, hf⟩ := h1
    rcases open_ints Try.underlying25 Try.underlying5 (by kernel_rfl) hf with ⟨hcs, _⟩ | ⟨x, l, c, zs, hcs, _, hl, hm, hz, _, hcell, hwz⟩
    · simp [Value.cells] at hcs
      obtain ⟨rfl, rfl, rfl⟩ := hcs
      exact ⟨[], .inl ⟨rfl, rfl, rfl, rfl⟩⟩
    · simp [Value.cells] at hcs
      obtain ⟨rfl, rfl, rfl⟩ := hcs
      exact ⟨zs, .inr ⟨_, rfl, hl, hm, by simpa using hz, hcell, hwz⟩⟩
  obtain ⟨a2, len2, cap2, rfl⟩ := okWide_slice Try.underlying25 (hval 2 25 v2 rfl rfl)
  have k2 := h2
  have lt2 : ∀ x ∈ p2, x.block < W.heap.size := by obtain ⟨m, hm⟩ := k2; exact DataW.trod_lt m _ _ _ hm
  obtain ⟨z2, w2⟩ : ∃ zs, IsRow .u8 W a2 len2 cap2 zs := by
    obtain ⟨fuel, hf⟩ := h2
    rcases open_ints Try.underlying25 Try.underlying5 (by kernel_rfl) hf with ⟨hcs, _⟩ | ⟨x, l, c, zs, hcs, _, hl, hm, hz, _, hcell, hwz⟩
    · simp [Value.cells] at hcs
      obtain ⟨rfl, rfl, rfl⟩ := hcs
      exact ⟨[], .inl ⟨rfl, rfl, rfl, rfl⟩⟩
    · simp [Value.cells] at hcs
      obtain ⟨rfl, rfl, rfl⟩ := hcs
      exact ⟨zs, .inr ⟨_, rfl, hl, hm, by simpa using hz, hcell, hwz⟩⟩
  clear hA0 hval0
  refine (walk a0 len0 cap0 z0 a1 len1 cap1 z1 a2 len2 cap2 z2 W w0 w1 w2).mono fun e W' ⟨he, bel⟩ => ?_
  subst he
  exact ⟨_, rfl, _, _, _, [], _, [], hW', trodAll_mk1 (shut_bool Try.underlying4 _), (trodAll_cons_mk (Below.trod laidOut (by kernel_rfl) (of_decide_eq_true (by kernel_rfl)) k0 bel lt0) (trodAll_cons_mk (Below.trod laidOut (by kernel_rfl) (of_decide_eq_true (by kernel_rfl)) k1 bel lt1) (trodAll_cons_mk (Below.trod laidOut (by kernel_rfl) (of_decide_eq_true (by kernel_rfl)) k2 bel lt2) trodAll_mk0))), rfl, bel.frame _, fun h => by cases h⟩

theorem over : Rows.crcPartsRow.holds Try.pinned (OpenSpec.ofChange Rows.crcPartsSpec) :=
  OpenClaim.holds_of_wide 6 Try.f6 rfl rfl rfl rfl rfl rfl rfl ⟨rfl, rfl, rfl, rfl, rfl⟩ rfl rfl rfl rfl rfl (by kernel_rfl) Try.func6 (by kernel_rfl)
    (of_decide_eq_true (by kernel_rfl)) (by unfold Func.isWrapper; first | (rw [if_pos (by decide +kernel)]; kernel_rfl) | (rw [if_neg (by decide +kernel)]; exact ⟨rfl, rfl⟩))
    (fun os started H enc _ => lifted os started H enc)

/-- ████ THE STATEMENT ████ -/
theorem proved : Rows.CrcPartsSaid := over
#print axioms proved
end Go.Proofs.Ytjfbgakebldjcaa.crcParts
