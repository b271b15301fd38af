/-
  The law CrcThree: the sums of three lists of one length, by exclusive or, are the sum of the three lists bit by bit; any three of at most 20000 bytes (the law's own bound). No condition.
-/
import Derived.Test.YtjfbgakebldjcaaRows
import Derived.WalkKit
import Derived.ProofKit
import Derived.OpenShut
import Derived.ShutString
import Derived.ChangeOld
import Derived.Below
import Derived.Test.YtjfbgakebldjcaaCrcL
import Derived.Test.YtjfbgakebldjcaaCrcR
import Derived.ChangeAlike
namespace Go.Proofs.Ytjfbgakebldjcaa.crcThree
open Go.ChangeShapes Go.WideShapes Go.ChangeAt Go.RowKit
open Go.ChangeMaps (open_string shut_string)
open Go.Proofs.Ytjfbgakebldjcaa
set_option linter.unusedVariables false

theorem own : ownKnob Try.prog.godebug = none := by kernel_rfl
theorem laidOut : laidOutB Try.prog = true := by kernel_rfl

theorem bits_of {a0 : Option Addr} {len0 : Nat} {xs : List Int} {w : World} (Hx : Hid (Rd .u8 w a0 len0 xs)) (Hin : Hid (In 0 255 xs)) (hn : len0 ≤ 20000) (c : Nat) {w1 : World} (hb : Below w.heap.size w w1) :
    Hid (Calls Try.prog 14 #[.slice a0 len0 c] w1 (RetOwn w1 5 .u8 (xs.map (· % 2)))) :=
  hid (bits_any a0 len0 c xs w1 (Hx.out.below hb (Nat.le_refl _)) (fun k => Hin.out.at_ (by omega) (by omega) k) (by omega))

def x3 (xs ys zs : List Int) (j : Nat) : Int := bits .xor .u8 (bits .xor .u8 (xs[j]?.getD 0) (ys[j]?.getD 0)) (zs[j]?.getD 0) % 2

theorem xor_mod2 (a b : Nat) : (a ^^^ b) % 2 = (a + b) % 2 := by
  have h := Nat.xor_mod_two_pow (a := a) (b := b) (n := 1)
  rw [Nat.pow_one] at h
  rw [h]
  rcases Nat.mod_two_eq_zero_or_one a with e1 | e1 <;> rcases Nat.mod_two_eq_zero_or_one b with e2 | e2 <;> rw [e1, e2, Nat.add_mod, e1, e2] <;> rfl
theorem x3_eq {xs ys zs : List Int} (hx : In 0 255 xs) (hy : In 0 255 ys) (hz : In 0 255 zs) (j : Nat) :
    x3 xs ys zs j = ((xs.map (· % 2))[j]?.getD 0 + (ys.map (· % 2))[j]?.getD 0 + (zs.map (· % 2))[j]?.getD 0) % 2 := by
  have g : ∀ l : List Int, (l.map (· % 2))[j]?.getD 0 = l[j]?.getD 0 % 2 := by
    intro l
    rw [List.getElem?_map]
    rcases l[j]? with _ | x <;> rfl
  rw [g, g, g]
  unfold x3
  have h1 := hx.at_ (by omega) (by omega) j
  have h2 := hy.at_ (by omega) (by omega) j
  have h3 := hz.at_ (by omega) (by omega) j
  clear g
  generalize xs[j]?.getD 0 = a at *
  generalize ys[j]?.getD 0 = b at *
  generalize zs[j]?.getD 0 = c at *
  obtain ⟨a, rfl⟩ := Int.eq_ofNat_of_zero_le h1.1
  obtain ⟨b, rfl⟩ := Int.eq_ofNat_of_zero_le h2.1
  obtain ⟨c, rfl⟩ := Int.eq_ofNat_of_zero_le h3.1
  have hlt : a ^^^ b < 2 ^ 8 := Nat.xor_lt_two_pow (by omega) (by omega)
  rw [u8_xor_nat a b (by omega) (by omega), u8_xor_nat _ c (by omega) (by omega)]
  have e1 := xor_mod2 (a ^^^ b) c
  have e2 := xor_mod2 a b
  omega
theorem bt_of {xs ys zs ws : List Int} {n : Nat} (hl : ws.length = n) (h : ∀ j, j < n → ws[j]?.getD 0 = x3 xs ys zs j) : Bt ws := by
  intro x hx
  obtain ⟨j, hj, rfl⟩ := List.mem_iff_getElem.1 hx
  have := h j (by omega)
  rw [List.getElem?_eq_getElem hj] at this
  have e : ws[j] = x3 xs ys zs j := this
  rw [e]
  unfold x3
  omega
theorem xor_i64 (x y z : Nat) (hx : x < 65536) (hy : y < 65536) (hz : z < 65536) : ((x ^^^ y ^^^ z : Nat) : Int) = bits .xor .i64 (bits .xor .i64 (x : Int) (y : Int)) (z : Int) := by
  have h : x ^^^ y < 2 ^ 16 := Nat.xor_lt_two_pow (by omega) (by omega)
  rw [i64_xor_nat x y (by omega) (by omega), i64_xor_nat _ z (by omega) (by omega)]

set_option maxHeartbeats 1600000 in
theorem walk (a0 : Option Addr) (len0 cap0 : Nat) (z0 : List Int) (a1 : Option Addr) (len1 cap1 : Nat) (z1 : List Int) (a2 : Option Addr) (len2 cap2 : Nat) (z2 : List Int) (w : World) (w0 : IsRow .u8 w a0 len0 cap0 z0) (w1 : IsRow .u8 w a1 len1 cap1 z1) (w2 : IsRow .u8 w a2 len2 cap2 z2) :
    Calls Try.prog 7 #[.slice a0 len0 cap0, .slice a1 len1 cap1, .slice a2 len2 cap2] w fun e w' => e = .returned (.bool true) ∧ Below w.heap.size w w' := by
  have Hx := hid w0.rd
  have Hin := hid (In.of_wf_u8 w0.wf)
  have Hy := hid w1.rd
  have Hiy := hid (In.of_wf_u8 w1.wf)
  have Hz := hid w2.rd
  have Hiz := hid (In.of_wf_u8 w2.wf)
  have hm0 := w0.len.1
  have hm1 := w1.len.1
  have hm2 := w2.len.1
  unfold maxLen at hm0 hm1 hm2
  generalize z0.take len0 = xs at Hx Hin
  generalize z1.take len1 = ys at Hy Hiy
  generalize z2.take len2 = zs at Hz Hiz
  clear w0 w1 w2
  have H0 := hid (alive_any w)
  by_cases hbig : 20000 < len0
  · go_enter Try.func7, Try.ntmps7
    go_wp2_with fail
    refine H0.out.mono ?_
    rintro e w1 ⟨rfl, hb⟩
    go_wp2
    go_ret
    exact ⟨rfl, hb⟩
  by_cases hd1 : len1 = len0
  case neg =>
    have e1 : ((len1 : Int) != (len0 : Int)) = true := by simp; omega
    go_enter Try.func7, Try.ntmps7
    go_wp2_with fail
    refine H0.out.mono ?_
    rintro e w1 ⟨rfl, hb⟩
    go_wp2
    go_ret
    exact ⟨rfl, hb⟩
  subst hd1
  by_cases hd2 : len2 = len1
  case neg =>
    have e1 : ((len2 : Int) != (len1 : Int)) = true := by simp; omega
    go_enter Try.func7, Try.ntmps7
    go_wp2_with fail
    refine H0.out.mono ?_
    rintro e w1 ⟨rfl, hb⟩
    go_wp2
    go_ret
    exact ⟨rfl, hb⟩
  subst hd2
  go_enter Try.func7, Try.ntmps7
  go_wp2_with fail
  refine H0.out.mono ?_
  rintro e w1 ⟨rfl, b1⟩
  clear H0
  have b1s := b1.size
  have hsz : len2 < 17592186044416 := by omega
  go_wp2_with (first | (at_make; refine wpList_makeI _ rfl _ _ _ rfl 5 .u8 1 Try.underlying25 Try.info_u8 (by omega) w.heap.size w len2 b1 b1s hsz .i64 .i64 rfl rfl ?_; intro w2 hown2 b2 _ _))
  have hgw := hown2.blockGe
  generalize w1.heap.size = g at *
  go_loopw [9] (fun i wr => ∃ k : Nat, ∃ ws : List Int, k ≤ len2 ∧ i = .int .i64 k ∧ Own w.heap.size 5 .u8 wr (.slice (some ⟨g, 0, none⟩) len2 len2) ws ∧ Hid (ws.length = len2) ∧ Hid (∀ j, j < k → ws[j]?.getD 0 = x3 xs ys zs j) ∧ Below w.heap.size w wr) (fun i _ => len2 - (intOf i).toNat)
  case atStart => exact ⟨0, _, Nat.zero_le _, rfl, hown2, hid (by simp), hid (fun j hj => absurd hj (by omega)), b2⟩
  case round =>
    obtain ⟨k, ws, hk, rfl, hown, hl, hall, hbel⟩ := hrel
    by_cases hlt : k < len2
    · obtain ⟨ba, oa, rfl, hba⟩ := Hx.out.addr (by omega)
      obtain ⟨bb, ob, rfl, hbb⟩ := Hy.out.addr (by omega)
      obtain ⟨bc, oc, rfl, hbc⟩ := Hz.out.addr (by omega)
      have ca := (Hx.out.below hbel (Nat.le_refl _)).cellAt k hlt
      have cb := (Hy.out.below hbel (Nat.le_refl _)).cellAt k hlt
      have cc := (Hz.out.below hbel (Nat.le_refl _)).cellAt k hlt
      have cw := hown.cellAt hl.out k hlt
      have fw := hown.frozenAt hl.out k
      go_wp2
      go_region
      have hbw := hown.blockGe
      have hset := hown.set_ hl.out k (x3 xs ys zs k)
      have hnew : Hid ((ws.set k (x3 xs ys zs k)).length = len2) := hid (by rw [List.length_set]; exact hl.out)
      have hnall : Hid (∀ j, j < k + 1 → (ws.set k (x3 xs ys zs k))[j]?.getD 0 = x3 xs ys zs j) := hid (fun j hj => by
        rcases Nat.lt_or_ge j k with h | h
        · rw [List.getElem?_set_ne (by omega)]; exact hall.out j h
        · obtain rfl : j = k := by omega
          rw [List.getElem?_set_self (by rw [hl.out]; exact hlt)]; rfl)
      have hbel' := (hbel.setCell (p := ⟨g, k, none⟩) hbw.1 (.int .u8 (x3 xs ys zs k))).drew
      obtain ⟨hs1, _⟩ := hset
      have hs1 := hs1.drew
      unfold x3 at hs1 hbel' hnew hnall
      go_wp2
      go_roundw
      case rel => exact ⟨k + 1, _, by omega, by go_num, hs1, hnew, hnall, hbel'⟩
      case measure => simp [intOf]; omega
    · obtain rfl : k = len2 := by omega
      have hbW := bt_of hl.out hall.out
      have hbA : Bt (xs.map (· % 2)) := Bt.mod
      have hbB : Bt (ys.map (· % 2)) := Bt.mod
      have hbC : Bt (zs.map (· % 2)) := Bt.mod
      have hlA : (xs.map (· % 2)).length = k := by rw [List.length_map]; exact Hx.out.1
      have hlB : (ys.map (· % 2)).length = k := by rw [List.length_map]; exact Hy.out.1
      have hlC : (zs.map (· % 2)).length = k := by rw [List.length_map]; exact Hz.out.1
      have T := hid (csum_three (s := 65535) (by omega) hbA hbB hbC hbW (by rw [hlA]; exact hlB) (by rw [hlA]; exact hlC) (by rw [hlA]; exact hl.out)
        (fun j hj => by rw [hall.out j (by omega)]; exact x3_eq Hin.out Hiy.out Hiz.out j))
      have KX := hid (fun (W : World) (hb : Below w.heap.size w W) => bits_of Hx Hin (by omega) cap0 hb)
      have KY := hid (fun (W : World) (hb : Below w.heap.size w W) => bits_of Hy Hiy (by omega) cap1 hb)
      have KZ := hid (fun (W : World) (hb : Below w.heap.size w W) => bits_of Hz Hiz (by omega) cap2 hb)
      clear hall b1 b2 hown2 hgw
      generalize xs.map (· % 2) = A at *
      generalize ys.map (· % 2) = B at *
      generalize zs.map (· % 2) = C at *
      have SA : Hid (overS 65535 A = ((csum 65535 A : Nat) : Int)) := hid (overS_ok (by omega) (by omega) hbA.bitsB)
      have SB : Hid (overS 65535 B = ((csum 65535 B : Nat) : Int)) := hid (overS_ok (by omega) (by omega) hbB.bitsB)
      have SC : Hid (overS 65535 C = ((csum 65535 C : Nat) : Int)) := hid (overS_ok (by omega) (by omega) hbC.bitsB)
      have SW : Hid (overS 65535 ws = ((csum 65535 ws : Nat) : Int)) := hid (overS_ok (by omega) (by omega) hbW.bitsB)
      have EA := hid (overE_ok (sum := 65535) (by omega) (by omega) hbA.bitsB)
      have EB := hid (overE_ok (sum := 65535) (by omega) (by omega) hbB.bitsB)
      have EC := hid (overE_ok (sum := 65535) (by omega) (by omega) hbC.bitsB)
      have EW := hid (overE_ok (sum := 65535) (by omega) (by omega) hbW.bitsB)
      have hcA := csum_lt 65535 A (by omega)
      have hcB := csum_lt 65535 B (by omega)
      have hcC := csum_lt 65535 C (by omega)
      have HA := hid hbA
      have HB := hid hbB
      have HC := hid hbC
      have HW := hid hbW
      have LA := hid hlA
      have LB := hid hlB
      have LC := hid hlC
      clear hbA hbB hbC hbW hlA hlB hlC Hx Hin Hy Hiy Hz Hiz
      obtain ⟨Aw, cw, hv, hrdw, _, _⟩ := hown.forms hl.out
      injection hv with hv1 hv2 hv3
      subst hv1 hv3
      clear hv2 hown
      go_wp2_with fail
      refine (KX.out _ hbel).out.mono ?_
      intro e w4 hr
      obtain ⟨AA, cA, rfl, hown2, hrd2, hnil2, hb2⟩ := hr.opens LA.out
      have b4 := hbel.trans (hb2.mono hbel.size)
      have hrdw := hrdw.below hb2 (Nat.le_refl _)
      clear hr hnil2 hown2 hb2 hbel
      go_wp2_with fail
      refine (crc_of AA k cA A w4 hrd2 (fun j => (HA.out.pos j).1) (by omega)).mono ?_
      rintro e w5 ⟨rfl, hb3⟩
      have b5 := b4.trans (hb3.mono b4.size)
      have hrdw := hrdw.below hb3 (Nat.le_refl _)
      rw [SA.out, EA.out]
      clear hrd2 hb3 b4
      go_wp2_with fail
      refine (KY.out _ b5).out.mono ?_
      intro e w6 hr
      obtain ⟨AB, cB, rfl, hown2, hrd2, hnil2, hb2⟩ := hr.opens LB.out
      have b6 := b5.trans (hb2.mono b5.size)
      have hrdw := hrdw.below hb2 (Nat.le_refl _)
      clear hr hnil2 hown2 hb2 b5
      go_wp2_with fail
      refine (crc_of AB k cB B w6 hrd2 (fun j => (HB.out.pos j).1) (by omega)).mono ?_
      rintro e w7 ⟨rfl, hb3⟩
      have b7 := b6.trans (hb3.mono b6.size)
      have hrdw := hrdw.below hb3 (Nat.le_refl _)
      rw [SB.out, EB.out]
      clear hrd2 hb3 b6
      go_wp2_with fail
      refine (KZ.out _ b7).out.mono ?_
      intro e w8 hr
      obtain ⟨AC, cC, rfl, hown2, hrd2, hnil2, hb2⟩ := hr.opens LC.out
      have b8 := b7.trans (hb2.mono b7.size)
      have hrdw := hrdw.below hb2 (Nat.le_refl _)
      clear hr hnil2 hown2 hb2 b7
      go_wp2_with fail
      refine (crc_of AC k cC C w8 hrd2 (fun j => (HC.out.pos j).1) (by omega)).mono ?_
      rintro e w9 ⟨rfl, hb3⟩
      have b9 := b8.trans (hb3.mono b8.size)
      have hrdw := hrdw.below hb3 (Nat.le_refl _)
      rw [SC.out, EC.out]
      clear hrd2 hb3 b8
      go_wp2_with fail
      refine (crc_of _ k _ ws w9 hrdw (fun j => (HW.out.pos j).1) (by omega)).mono ?_
      rintro e w10 ⟨rfl, hb3⟩
      have b10 := b9.trans (hb3.mono b9.size)
      rw [SW.out, EW.out]
      clear hrdw hb3 b9 SA SB SC SW EA EB EC EW KX KY KZ
      rw [T.out]
      generalize csum 65535 A = x at *
      generalize csum 65535 B = y at *
      generalize csum 65535 C = z at *
      clear T
      rw [xor_i64 x y z hcA hcB hcC]
      go_wp2
      go_ret
      exact ⟨rfl, b10⟩

/-! ### THE ROW's STEP: WRITTEN OUT: LEAVE IT -/
set_option maxRecDepth 100000 in
theorem lifted (os : Os) (started : os.Started) (H : Type) (enc : TypeId × Value → H) :
    ReturnsInHanded {} Try.checked os 7 .any (Rows.crcThreeSpec.pre6 enc Try.prog Try.f7 Rows.crcThreeRow.domain false) (Rows.crcThreeSpec.post enc Try.prog Try.f7 false true false false) := by
  refine returnsInHanded_of_change (C := Try.checked) own started (by kernel_rfl) Try.func7
    (ChangeSpec.witness6 (enc := enc) (C := Try.checked) false ⟨#[], #[.slice none 0 0, .slice none 0 0, .slice none 0 0], []⟩ 8 (by kernel_rfl) (by kernel_rfl) (by kernel_rfl) (by kernel_rfl)) ?_
  intro W base args ds gs before hval0 hW hcnd _
  have hval : ∀ (j : Nat) t v, Try.f7.params[j]? = some t → args[j]? = some v → Value.okWide Try.prog W .any base t v := hval0
  have hW' := hW
  obtain ⟨p, q, hA0, hV, rfl, hfz, hnd⟩ := hW
  have hA : DataW.TrodAll enc Try.prog W 0 (fun _ => true) true Try.f7.params.toList args.toList ds p := hA0
  rw [Try.params7] at hA hval
  obtain ⟨v0, vs0, d0, ds0, p0, q0, hargs, rfl, rfl, h0, r0⟩ := trodAll_cons hA
  obtain ⟨v1, vs1, d1, ds1, p1, q1, rfl, rfl, rfl, h1, r1⟩ := trodAll_cons r0
  obtain ⟨v2, vs2, d2, ds2, p2, q2, rfl, rfl, rfl, h2, r2⟩ := trodAll_cons r1
  obtain ⟨rfl, rfl, rfl⟩ := trodAll_nil r2
  obtain rfl : args = #[v0, v1, v2] := by cases args; simp_all
  obtain ⟨rfl, rfl⟩ := trodVars_none hV
  obtain ⟨a0, len0, cap0, rfl⟩ := okWide_slice Try.underlying25 (hval 0 25 v0 rfl rfl)
  have k0 := h0
  have lt0 : ∀ x ∈ p0, x.block < W.heap.size := by obtain ⟨m, hm⟩ := k0; exact DataW.trod_lt m _ _ _ hm
  obtain ⟨z0, w0⟩ : ∃ zs, IsRow .u8 W a0 len0 cap0 zs := by
    obtain ⟨fuel, hf⟩ := h0
    rcases open_ints Try.underlying25 Try.underlying5 (by kernel_rfl) hf with ⟨hcs, _⟩ | ⟨x, l, c, zs, hcs, _, hl, hm, hz, _, hcell, hwz⟩
    · simp [Value.cells] at hcs
      obtain ⟨rfl, rfl, rfl⟩ := hcs
      exact ⟨[], .inl ⟨rfl, rfl, rfl, rfl⟩⟩
    · simp [Value.cells] at hcs
      obtain ⟨rfl, rfl, rfl⟩ := hcs
      exact ⟨zs, .inr ⟨_, rfl, hl, hm, by simpa using hz, hcell, hwz⟩⟩
  obtain ⟨a1, len1, cap1, rfl⟩ := okWide_slice Try.underlying25 (hval 1 25 v1 rfl rfl)
  have k1 := h1
  have lt1 : ∀ x ∈ p1, x.block < W.heap.size := by obtain ⟨m, hm⟩ := k1; exact DataW.trod_lt m _ _ _ hm
  obtain ⟨z1, w1⟩ : ∃ zs, IsRow .u8 W a1 len1 cap1 zs := by
    obtain ⟨fuel, hf⟩ := h1
    rcases open_ints Try.underlying25 Try.underlying5 (by kernel_rfl) hf with ⟨hcs, _⟩ | ⟨x, l, c, zs, hcs, _, hl, hm, hz, _, hcell, hwz⟩
    · simp [Value.cells] at hcs
      obtain ⟨rfl, rfl, rfl⟩ := hcs
      exact ⟨[], .inl ⟨rfl, rfl, rfl, rfl⟩⟩
    · simp [Value.cells] at hcs
      obtain ⟨rfl, rfl, rfl⟩ := hcs
      exact ⟨zs, .inr ⟨_, rfl, hl, hm, by simpa using hz, hcell, hwz⟩⟩
  obtain ⟨a2, len2, cap2, rfl⟩ := okWide_slice Try.underlying25 (hval 2 25 v2 rfl rfl)
  have k2 := h2
  have lt2 : ∀ x ∈ p2, x.block < W.heap.size := by obtain ⟨m, hm⟩ := k2; exact DataW.trod_lt m _ _ _ hm
  obtain ⟨z2, w2⟩ : ∃ zs, IsRow .u8 W a2 len2 cap2 zs := by
    obtain ⟨fuel, hf⟩ := h2
    rcases open_ints Try.underlying25 Try.underlying5 (by kernel_rfl) hf with ⟨hcs, _⟩ | ⟨x, l, c, zs, hcs, _, hl, hm, hz, _, hcell, hwz⟩
    · simp [Value.cells] at hcs
      obtain ⟨rfl, rfl, rfl⟩ := hcs
      exact ⟨[], .inl ⟨rfl, rfl, rfl, rfl⟩⟩
    · simp [Value.cells] at hcs
      obtain ⟨rfl, rfl, rfl⟩ := hcs
      exact ⟨zs, .inr ⟨_, rfl, hl, hm, by simpa using hz, hcell, hwz⟩⟩
  clear hA0 hval0
  refine (walk a0 len0 cap0 z0 a1 len1 cap1 z1 a2 len2 cap2 z2 W w0 w1 w2).mono fun e W' ⟨he, bel⟩ => ?_
  subst he
  exact ⟨_, rfl, _, _, _, [], _, [], hW', trodAll_mk1 (shut_bool Try.underlying4 _), (trodAll_cons_mk (Below.trod laidOut (by kernel_rfl) (of_decide_eq_true (by kernel_rfl)) k0 bel lt0) (trodAll_cons_mk (Below.trod laidOut (by kernel_rfl) (of_decide_eq_true (by kernel_rfl)) k1 bel lt1) (trodAll_cons_mk (Below.trod laidOut (by kernel_rfl) (of_decide_eq_true (by kernel_rfl)) k2 bel lt2) trodAll_mk0))), rfl, bel.frame _, fun h => by cases h⟩

theorem over : Rows.crcThreeRow.holds Try.pinned (OpenSpec.ofChange Rows.crcThreeSpec) :=
  OpenClaim.holds_of_wide 7 Try.f7 rfl rfl rfl rfl rfl rfl rfl ⟨rfl, rfl, rfl, rfl, rfl⟩ rfl rfl rfl rfl rfl (by kernel_rfl) Try.func7 (by kernel_rfl)
    (of_decide_eq_true (by kernel_rfl)) (by unfold Func.isWrapper; first | (rw [if_pos (by decide +kernel)]; kernel_rfl) | (rw [if_neg (by decide +kernel)]; exact ⟨rfl, rfl⟩))
    (fun os started H enc _ => lifted os started H enc)

/-- ████ THE STATEMENT ████ -/
theorem proved : Rows.CrcThreeSaid := over
#print axioms proved
end Go.Proofs.Ytjfbgakebldjcaa.crcThree
