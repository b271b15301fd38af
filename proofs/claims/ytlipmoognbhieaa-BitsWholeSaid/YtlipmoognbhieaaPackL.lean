/-
  The walks of the reference of layer 1: Packed, Pack, Opened, Unpack.
-/
import Derived.Test.YtlipmoognbhieaaBitsL
import Derived.Test.YtlipmoognbhieaaUnpack
namespace Go.Proofs.Ytlipmoognbhieaa
set_option linter.unusedVariables false
open Go.RowKit

set_option maxHeartbeats 1000000 in
theorem rpacked_any (A : Option Addr) (n c : Nat) (xs : List Int) (w : World) (hx : Rd .u8 w A n xs) (hn : n ≤ 16777216) (hp : ∀ k : Nat, 0 ≤ xs[k]?.getD 0 ∧ xs[k]?.getD 0 ≤ 255) (h1 : le1 xs = true) :
    Calls Try.prog 18 #[.slice A n c] w (RetOwn w 5 .u8 (packL xs)) := by
  have Hl := hid hx.1
  have Hx := hid hx
  have Hp := hid hp
  have Hb := hid (bitAt_le h1)
  clear hx hp h1
  go_enter Try.func18, Try.ntmps18
  go_wp2
  go_loopw [3, 4] (fun v i wr => ∃ q : Nat, q ≤ (n + 7) / 8 ∧ i = .int .i64 (8 * (q : Int)) ∧ Own w.heap.size 5 .u8 wr v ((List.range q).map (fun j => (byteAt xs j : Int))) ∧ Below w.heap.size w wr) (fun _ i _ => n + 8 - (intOf i).toNat)
  case atStart => exact ⟨0, Nat.zero_le _, rfl, Own.none_, Below.refl _ _⟩
  case round =>
    obtain ⟨q, hq, rfl, hown, hbel⟩ := hrel
    by_cases hlt : 8 * q < n
    · have hlt' : 8 * (q : Int) < (n : Int) := by omega
      have hbs := hbel.size
      obtain ⟨wo, rfl⟩ : ∃ wo : World, wo = wr := ⟨_, rfl⟩
      go_wp2
      go_loop [5, 6] (fun v i => ∃ k : Nat, k ≤ 8 ∧ i = .int .i64 k ∧ v = .int .i64 (partAt xs (8 * q) k)) (fun _ i => 8 - (intOf i).toNat)
      case atStart => exact ⟨0, by omega, rfl, rfl⟩
      case round =>
        obtain ⟨k, hk, rfl, rfl⟩ := hrel
        by_cases hk8 : k < 8
        · have hpl := partAt_lt xs Hb.out (8 * q) k
          have hpw : 2 ^ k ≤ 2 ^ 7 := Nat.pow_le_pow_right (by omega) (by omega)
          have hvb : partAt xs (8 * q) k ≤ 128 := by omega
          have HS := hid (show partAt xs (8 * q) (k + 1) = 2 * partAt xs (8 * q) k + bitAt xs (8 * q + k) from rfl)
          clear hpl hpw
          by_cases hin : 8 * q + k < n
          · obtain ⟨b, off, rfl, hbl⟩ := Hx.out.addr (by omega)
            have ck := (Hx.out.below hbel (Nat.le_refl _)).cellAt (8 * q + k) hin
            obtain ⟨hp0, hp1⟩ := Hp.out (8 * q + k)
            obtain ⟨x, hxk⟩ := Int.eq_ofNat_of_zero_le hp0
            have HXK := hid (show bitAt xs (8 * q + k) = x by unfold bitAt; rw [hxk, Int.toNat_natCast])
            rw [hxk] at ck hp1
            clear hxk hp0
            have hin' : 8 * (q : Int) + (k : Int) < (n : Int) := by omega
            generalize partAt xs (8 * q) k = v at *
            go_wp2
            go_round
            case rel => exact ⟨k + 1, by omega, by go_num, by rw [HS.out, HXK.out]; go_num⟩
            case measure => simp [intOf]; omega
          · have hin' : ¬ 8 * (q : Int) + (k : Int) < (n : Int) := by omega
            have HXK := hid (bitAt_none xs (8 * q + k) (by rw [Hl.out]; omega))
            generalize partAt xs (8 * q) k = v at *
            go_wp2
            go_round
            case rel => exact ⟨k + 1, by omega, by go_num, by rw [HS.out, HXK.out]; go_num⟩
            case measure => simp [intOf]; omega
        · obtain rfl : k = 8 := by omega
          have hbl := byte_lt xs Hb.out q
          have H8 := hid (partAt_8 xs q)
          rw [H8.out]
          have hlen : ((List.range q).map (fun j => (byteAt xs j : Int))).length < 17592186044416 := by simp; omega
          have HP := hid (packL_take xs q)
          generalize byteAt xs q = v at *
          go_wp2_with (first | (at_builtin; refine wpList_push _ rfl _ _ _ rfl 5 .u8 1 Try.underlying22 Try.info_u8 (by omega) w.heap.size w _ _ _ hown hbel hbs hlen rfl rfl ?_; intro v' w1 hown1 hbel1 _ _))
          go_roundw
          case rel => exact ⟨q + 1, by omega, by congr 1, by rw [HP.out]; exact hown1, hbel1⟩
          case measure => simp [intOf]; omega
    · have hlt' : ¬ 8 * (q : Int) < (n : Int) := by omega
      obtain rfl : q = (n + 7) / 8 := by omega
      have HE := hid (show packL xs = (List.range ((n + 7) / 8)).map (fun j => (byteAt xs j : Int)) by unfold packL; rw [Hl.out])
      go_wp2
      go_ret
      rw [HE.out]
      exact ⟨_, rfl, hown, hbel⟩

set_option maxHeartbeats 1000000 in
theorem rpack_any (A : Option Addr) (n c : Nat) (xs : List Int) (w : World) (hx : Rd .u8 w A n xs) (hn : n ≤ 140737488355328) (hp : ∀ k : Nat, 0 ≤ xs[k]?.getD 0 ∧ xs[k]?.getD 0 ≤ 255) :
    Calls Try.prog 10 #[.slice A n c] w (RetOwnE w 5 .u8 (packR xs) (packE xs)) := by
  have hl := hx.1
  have Hl := hid hl
  by_cases hbig : 16777216 < n
  · have e := packE_big (xs := xs) (by omega)
    have PE := hid e
    have PR := hid (packR_no (xs := xs) (by omega))
    clear e hx hp hl
    go_enter Try.func10, Try.ntmps10
    go_wp2
    go_ret2
    rw [PR.out, PE.out]
    exact ⟨_, rfl, Own.none_, Below.refl _ _⟩
  have Hx := hid hx
  have Hp := hid hp
  clear hx hp hl
  go_enter Try.func10, Try.ntmps10
  go_wp2
  go_loop [4] (fun i => ∃ k : Nat, k ≤ n ∧ i = .int .i64 k ∧ Hid (∀ j : Nat, j < k → xs[j]?.getD 0 ≤ 1)) (fun i => n - (intOf i).toNat)
  case atStart => exact ⟨0, Nat.zero_le _, rfl, hid (fun j hj => absurd hj (by omega))⟩
  case round =>
    obtain ⟨k, hk, rfl, hall⟩ := hrel
    by_cases hlt : k < n
    · obtain ⟨b, off, rfl, hbl⟩ := Hx.out.addr (by omega)
      have ck := Hx.out.cellAt k hlt
      obtain ⟨hp0, hp1⟩ := Hp.out k
      by_cases h1 : xs[k]?.getD 0 ≤ 1
      · have H1 := hid h1
        go_wp2
        go_round
        case rel => exact ⟨k + 1, by omega, by go_num, hid (fun j hj => by
          rcases Nat.lt_or_ge j k with h | h
          · exact hall.out j h
          · obtain rfl : j = k := by omega
            exact H1.out)⟩
        case measure => simp [intOf]; omega
      · have hbad : le1 xs = false := le1_not k (by rw [Hl.out]; exact hlt) (by omega)
        have e := packE_bad (xs := xs) (by rw [Hl.out]; omega) hbad
        have PE := hid e
        have PR := hid (packR_no (xs := xs) (by omega))
        clear e hbad
        go_wp2
        go_ret2
        rw [PR.out, PE.out]
        exact ⟨_, rfl, Own.none_, Below.refl _ _⟩
    · obtain rfl : k = n := by omega
      have hgood : le1 xs = true := le1_of (fun j hj => hall.out j (by rw [Hl.out] at hj; exact hj))
      have e := packE_ok (xs := xs) (by rw [Hl.out]; omega) hgood
      have PE := hid e
      have PR := hid (packR_ok e)
      have r1 := hid (rpacked_any A k c xs w Hx.out (by omega) Hp.out hgood)
      clear e hgood
      go_wp2_with fail
      refine r1.out.mono ?_
      rintro e w1 ⟨v, rfl, hown, hb⟩
      go_wp2
      go_ret2
      rw [PR.out, PE.out]
      exact ⟨_, rfl, hown, hb⟩

set_option maxHeartbeats 1000000 in
theorem ropened_any (A : Option Addr) (n c : Nat) (xs : List Int) (w : World) (hx : Rd .u8 w A n xs) (hn : n ≤ 2097152) (hp : ∀ k : Nat, 0 ≤ xs[k]?.getD 0 ∧ xs[k]?.getD 0 ≤ 255) :
    Calls Try.prog 20 #[.slice A n c] w (RetOwn w 5 .u8 (openL xs)) := by
  have Hl := hid hx.1
  have Hx := hid hx
  have Hp := hid hp
  clear hx hp
  go_enter Try.func20, Try.ntmps20
  go_wp2
  go_loopw [3, 4] (fun v i wr => ∃ k : Nat, k ≤ n ∧ i = .int .i64 k ∧ Own w.heap.size 5 .u8 wr v (openL (xs.take k)) ∧ Below w.heap.size w wr) (fun _ i _ => n - (intOf i).toNat)
  case atStart => exact ⟨0, Nat.zero_le _, rfl, Own.none_, Below.refl _ _⟩
  case round =>
    obtain ⟨k, hk, rfl, hown, hbel⟩ := hrel
    by_cases hlt : k < n
    · obtain ⟨b, off, rfl, hbl⟩ := Hx.out.addr (by omega)
      have ck := (Hx.out.below hbel (Nat.le_refl _)).cellAt k hlt
      obtain ⟨hp0, hp1⟩ := Hp.out k
      obtain ⟨cx, hxk⟩ := Int.eq_ofNat_of_zero_le hp0
      have HXK := hid hxk
      rw [hxk] at ck hp1
      clear hxk hp0
      have OT := hid (openL_take xs k (by rw [Hl.out]; exact hlt))
      have OL : (openL (xs.take k)).length + 8 < 17592186044416 := by rw [openL_len, List.length_take, Hl.out]; omega
      have r1 := hid (rbits_any 8 cx wr (by omega) (by omega))
      go_wp2_with fail
      refine r1.out.mono ?_
      intro e w1 hr
      obtain ⟨A1, c1, rfl, _, hrd1, hnil1, hb1⟩ := hr.opens (bitsOf_len cx 8)
      have hbs := hbel.size
      have b1 := hbel.trans (hb1.mono hbs)
      have hown1 := hown.below hb1 (Nat.le_refl _)
      have b1s := b1.size
      clear r1 hr hown ck hb1
      go_wp2_with (first | (at_builtin; refine wpList_join _ rfl _ _ _ rfl 5 .u8 1 Try.underlying22 Try.info_u8 (by omega) w.heap.size w _ _ _ _ _ _ hown1 hrd1 hnil1 b1 b1s OL rfl rfl ?_; intro v2 w2 hown2 b2 _ _))
      go_roundw
      case rel => exact ⟨k + 1, by omega, by go_num, by rw [OT.out, HXK.out, Int.toNat_natCast]; exact hown2, b2⟩
      case measure => simp [intOf]; omega
    · obtain rfl : k = n := by omega
      rw [List.take_of_length_le (by rw [Hl.out]; omega)] at hown
      go_wp2
      go_ret
      exact ⟨_, rfl, hown, hbel⟩

set_option maxHeartbeats 1000000 in
theorem runpack_any (A : Option Addr) (n c : Nat) (xs : List Int) (w : World) (hx : Rd .u8 w A n xs) (hp : ∀ k : Nat, 0 ≤ xs[k]?.getD 0 ∧ xs[k]?.getD 0 ≤ 255) :
    Calls Try.prog 12 #[.slice A n c] w (RetOwnE w 5 .u8 (unpackR xs) (unpackE xs)) := by
  by_cases hbig : 2097152 < n
  · have PE := hid (show unpackE xs = 3 by unfold unpackE; rw [if_pos (by rw [hx.1]; exact hbig)])
    have PR := hid (show unpackR xs = [] by unfold unpackR; rw [if_pos (by rw [hx.1]; exact hbig)])
    clear hx
    go_enter Try.func12, Try.ntmps12
    go_wp2
    go_ret2
    rw [PR.out, PE.out]
    exact ⟨_, rfl, Own.none_, Below.refl _ _⟩
  · have PE := hid (show unpackE xs = 0 by unfold unpackE; rw [if_neg (by rw [hx.1]; exact hbig)])
    have PR := hid (show unpackR xs = openL xs by unfold unpackR; rw [if_neg (by rw [hx.1]; exact hbig)])
    have r1 := hid (ropened_any A n c xs w hx (by omega) hp)
    clear hx hp
    go_enter Try.func12, Try.ntmps12
    go_wp2_with fail
    refine r1.out.mono ?_
    rintro e w1 ⟨v, rfl, hown, hb⟩
    go_wp2
    go_ret2
    rw [PR.out, PE.out]
    exact ⟨_, rfl, hown, hb⟩
end Go.Proofs.Ytlipmoognbhieaa
