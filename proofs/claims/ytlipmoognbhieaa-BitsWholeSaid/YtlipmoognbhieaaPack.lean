/-
  The walks of package bits: Pack.
-/
import Derived.Test.YtlipmoognbhieaaBits
import Derived.Test.YtlipmoognbhieaaPackP
import Derived.ChangeAlike
namespace Go.Proofs.Ytlipmoognbhieaa
set_option linter.unusedVariables false
open Go.RowKit

theorem pack_or (B x r : Nat) (hr : r < 8) (hx : x ≤ 1) (hB : B ≤ 255) (hm : B % 2 ^ (8 - r) = 0) : bits .or .u8 (B : Int) ((x : Int) * 2 ^ (7 - r) % 256) = ((B + x * 2 ^ (7 - r) : Nat) : Int) := by
  have h1 : 2 ^ (7 - r) ≤ 2 ^ 7 := Nat.pow_le_pow_right (by omega) (by omega)
  have h2 : x * 2 ^ (7 - r) ≤ 1 * 2 ^ (7 - r) := Nat.mul_le_mul_right _ hx
  have h3 : 2 ^ (8 - r) = 2 * 2 ^ (7 - r) := by rw [show 8 - r = (7 - r) + 1 by omega, Nat.pow_succ, Nat.mul_comm]
  have h4 : 0 < 2 ^ (7 - r) := Nat.pow_pos (by omega)
  have e : (x : Int) * 2 ^ (7 - r) % 256 = ((x * 2 ^ (7 - r) : Nat) : Int) := by
    rw [show (x : Int) * 2 ^ (7 - r) = ((x * 2 ^ (7 - r) : Nat) : Int) by push_cast; rfl]
    omega
  rw [e, u8_or_nat B (x * 2 ^ (7 - r)) (by omega) (by omega), nat_join (8 - r) B (x * 2 ^ (7 - r)) hm (by omega)]

set_option maxHeartbeats 1000000 in
theorem pack_any (A : Option Addr) (n c : Nat) (xs : List Int) (w : World) (hx : Rd .u8 w A n xs) (hn : n ≤ 140737488355328) (hp : ∀ k : Nat, 0 ≤ xs[k]?.getD 0 ∧ xs[k]?.getD 0 ≤ 255) :
    Calls Try.prog 9 #[.slice A n c] w (RetOwnE w 5 .u8 (packR xs) (packE xs)) := by
  have hl := hx.1
  have Hl := hid hl
  by_cases hbig : 16777216 < n
  · have e := packE_big (xs := xs) (by omega)
    have PE := hid e
    have PR := hid (packR_no (xs := xs) (by omega))
    clear e hx hp hl
    go_enter Try.func9, Try.ntmps9
    go_wp2
    go_ret2
    rw [PR.out, PE.out]
    exact ⟨_, rfl, Own.none_, Below.refl _ _⟩
  have Hx := hid hx
  have Hp := hid hp
  clear hx hp hl
  obtain ⟨m, hm⟩ : ∃ m, m = (n + 7) / 8 := ⟨_, rfl⟩
  have Hm := hid hm
  have em : ((n : Int) + 7) / 8 = (m : Int) := by omega
  have Em := hid em
  have hmb : m ≤ 2097153 := by omega
  have hml : m < 17592186044416 := by omega
  have hbw := Below.refl w.heap.size w
  have hle := Nat.le_refl w.heap.size
  clear em hm
  go_enter Try.func9, Try.ntmps9
  go_wp2_with (first | (at_make; refine wpList_makeI _ rfl _ _ _ rfl 5 .u8 1 Try.underlying22 Try.info_u8 (by omega) w.heap.size w m hbw hle hml .i64 .i64 (by rw [← Em.out]; rfl) (by rw [← Em.out]; rfl) ?_; intro w2 hown2 b2 _ _))
  have hgw := hown2.blockGe
  go_loopw [17] (fun i wr => ∃ k : Nat, ∃ zs : List Int, k ≤ n ∧ i = .int .i64 k ∧ Own w.heap.size 5 .u8 wr (.slice (some ⟨w.heap.size, 0, none⟩) m m) zs ∧ Hid (zs.length = m) ∧ Hid (∀ j, j < m → zs[j]?.getD 0 = byteAt (xs.take k) j) ∧ Hid (∀ j, j < k → xs[j]?.getD 0 ≤ 1) ∧ Below w.heap.size w wr) (fun i _ => n - (intOf i).toNat)
  case atStart => exact ⟨0, _, Nat.zero_le _, rfl, hown2, hid (by simp), hid (fun j hj => by simp [byteAt, bitAt, hj]), hid (fun j hj => absurd hj (by omega)), b2⟩
  case round =>
    obtain ⟨k, zs, hk, rfl, hown, hzl, hall, hle1, hbel⟩ := hrel
    by_cases hlt : k < n
    · obtain ⟨b, off, rfl, hbl⟩ := Hx.out.addr (by omega)
      have ck := (Hx.out.below hbel (Nat.le_refl _)).cellAt k hlt
      obtain ⟨hp0, hp1⟩ := Hp.out k
      obtain ⟨x, hxk⟩ := Int.eq_ofNat_of_zero_le hp0
      have HXK := hid hxk
      rw [hxk] at ck hp1
      clear hxk hp0
      by_cases h1 : x ≤ 1
      · have h1' : (x : Int) ≤ 1 := by omega
        have hkm : k / 8 < m := by have := Hm.out; omega
        have cw := hown.cellAt hzl.out (k / 8) hkm
        have fw := hown.frozenAt hzl.out (k / 8)
        have hkm' : ((k : Int) / 8) < (m : Int) := by omega
        rw [hall.out (k / 8) hkm] at cw
        have hba : ∀ j, bitAt (xs.take k) j ≤ 1 := fun j => by
          rw [bitAt_take]
          split
          · have := hle1.out j (by assumption)
            have := (Hp.out j).1
            unfold bitAt
            omega
          · omega
        have hB := byte_lt (xs.take k) hba (k / 8)
        obtain ⟨hs1, hs2⟩ := byte_step xs k
        have hbit : bitAt xs k = x := by unfold bitAt; rw [HXK.out, Int.toNat_natCast]
        have hor := pack_or (byteAt (xs.take k) (k / 8)) x (k % 8) (by omega) h1 hB hs2
        rw [hbit] at hs1
        rw [← hs1] at hor
        have HOR := hid hor
        have hbw' := hown.blockGe
        obtain ⟨hn1, _⟩ := hown.set_ hzl.out (k / 8) (byteAt (xs.take (k + 1)) (k / 8) : Int)
        have hn1 := hn1.drew
        have hnl : Hid ((zs.set (k / 8) (byteAt (xs.take (k + 1)) (k / 8) : Int)).length = m) := hid (by rw [List.length_set]; exact hzl.out)
        have hna : Hid (∀ j, j < m → (zs.set (k / 8) (byteAt (xs.take (k + 1)) (k / 8) : Int))[j]?.getD 0 = byteAt (xs.take (k + 1)) j) := hid (fun j hj => by
          by_cases hjk : j = k / 8
          · subst hjk
            rw [List.getElem?_set_self (by rw [hzl.out]; exact hkm)]; rfl
          · rw [List.getElem?_set_ne (by omega), hall.out j hj, byte_other xs k j hjk])
        have hnle : Hid (∀ j, j < k + 1 → xs[j]?.getD 0 ≤ 1) := hid (fun j hj => by
          rcases Nat.lt_or_ge j k with h | h
          · exact hle1.out j h
          · obtain rfl : j = k := by omega
            rw [HXK.out]; omega)
        have hbel' := (hbel.setCell (p := ⟨w.heap.size, k / 8, none⟩) hbw'.1 (.int .u8 (byteAt (xs.take (k + 1)) (k / 8) : Int))).drew
        clear hba hB hs1 hs2 hbit hor
        go_wp2
        go_region
        rw [HOR.out]
        go_wp2
        go_roundw
        case rel => exact ⟨k + 1, _, by omega, by go_num, hn1, hnl, hna, hnle, hbel'⟩
        case measure => simp [intOf]; omega
      · have h1' : ¬ (x : Int) ≤ 1 := by omega
        have hbad : le1 xs = false := le1_not k (by rw [Hl.out]; exact hlt) (by rw [HXK.out]; omega)
        have e := packE_bad (xs := xs) (by rw [Hl.out]; omega) hbad
        have PE := hid e
        have PR := hid (packR_no (xs := xs) (by omega))
        clear e hbad
        go_wp2
        go_ret2
        rw [PR.out, PE.out]
        exact ⟨_, rfl, Own.none_, hbel⟩
    · obtain rfl : k = n := by omega
      have hgood : le1 xs = true := le1_of (fun j hj => hle1.out j (by rw [Hl.out] at hj; exact hj))
      have e := packE_ok (xs := xs) (by rw [Hl.out]; omega) hgood
      have PE := hid e
      have PR := hid (packR_ok e)
      have PZ := hid (packL_of (xs := xs) (zs := zs) (by rw [hzl.out, Hm.out, Hl.out]) (fun j hj => by rw [hall.out j (by rw [Hm.out]; rw [Hl.out] at hj; exact hj), List.take_of_length_le (by rw [Hl.out]; omega)]))
      clear e hgood
      go_wp2
      go_ret2
      rw [PR.out, PE.out, ← PZ.out]
      exact ⟨_, rfl, hown, hbel⟩
end Go.Proofs.Ytlipmoognbhieaa
