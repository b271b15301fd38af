/-
  The walks of the laws' own helpers and of the reference of layer 2.
-/
import Derived.Test.YtjfbgakebldjcaaCrc
namespace Go.Proofs.Ytjfbgakebldjcaa
set_option linter.unusedVariables false
open Go.RowKit

set_option maxHeartbeats 800000 in
theorem bits_any (A : Option Addr) (n c : Nat) (xs : List Int) (w : World) (hx : Rd .u8 w A n xs) (hp : ∀ k : Nat, 0 ≤ xs[k]?.getD 0 ∧ xs[k]?.getD 0 ≤ 255) (hn : n ≤ 1000000) :
    Calls Try.prog 14 #[.slice A n c] w (RetOwn w 5 .u8 (xs.map (· % 2))) := by
  have Hl := hid hx.1
  go_enter Try.func14, Try.ntmps14
  go_wp2
  go_loopw [3, 4] (fun v i wr => ∃ k : Nat, k ≤ n ∧ i = .int .i64 k ∧ Own w.heap.size 5 .u8 wr v ((xs.take k).map (· % 2)) ∧ Below w.heap.size w wr) (fun _ i _ => n - (intOf i).toNat)
  case atStart => exact ⟨0, Nat.zero_le _, rfl, Own.none_, Below.refl _ _⟩
  case round =>
    obtain ⟨k, hk, rfl, hown, hbel⟩ := hrel
    by_cases hlt : k < n
    · obtain ⟨b, off, rfl, hbl, hc⟩ := hx.2 (by omega)
      have hck := hc k hlt
      obtain ⟨hpk, hpk2⟩ := hp k
      rw [← hbel.cell (p := ⟨b, off + k, none⟩) hbl] at hck
      clear hc hx
      have Hst := hid (map_take_succ (· % 2) xs k (by rw [Hl.out]; exact hlt))
      have hlen : ((xs.take k).map (· % 2)).length < 17592186044416 := by rw [map_take_len _ _ _ (by rw [Hl.out]; exact hk)]; omega
      go_wp2_with (first | (at_builtin; refine wpList_push _ rfl _ _ _ rfl 5 .u8 1 Try.underlying25 Try.info_u8 (by omega) w.heap.size w _ _ _ hown hbel hbel.size hlen rfl rfl ?_; intro v' w1 hown1 hbel1 hsz1 _))
      go_roundw
      case rel => exact ⟨k + 1, by omega, by go_num, by rw [Hst.out]; exact hown1, hbel1⟩
      case measure => simp [intOf]; omega
    · obtain rfl : k = n := by omega
      go_wp2
      go_ret
      exact ⟨_, rfl, by rw [List.take_of_length_le (by rw [Hl.out]; omega)] at hown; exact hown, hbel⟩

theorem i64_flip (s : Nat) (h : s < 65536) : bits .xor .i64 (s : Int) 32773 = ((s ^^^ 32773 : Nat) : Int) := by
  have := i64_xor_nat s 32773 (by omega) (by omega)
  exact this

set_option maxHeartbeats 400000 in
theorem ref_step (bit s : Nat) (w : World) (hs : s < 65536) (hb : bit < 256) :
    Calls Try.prog 18 #[.int .i64 s, .int .i64 bit] w fun e w' => e = .returned (.int .i64 (cstep s bit)) ∧ w = w' := by
  have hs1 : (s : Int) ≤ 65535 := by omega
  have hb1 : (bit : Int) ≤ 255 := by omega
  go_enter Try.func18, Try.ntmps18
  by_cases h : s / 32768 = bit
  · have ht : (((s : Int) / 32768) != (bit : Int)) = false := by simp; omega
    go_wp2
    go_ret
    refine ⟨?_, rfl⟩
    rw [cstep, if_pos h]
    rfl
  · have ht : (((s : Int) / 32768) != (bit : Int)) = true := by simp; omega
    go_wp2
    go_ret
    refine ⟨?_, rfl⟩
    rw [cstep, if_neg h]
    refine retI ?_
    have := i64_flip (2 * s % 65536) (by omega)
    rw [← this]
    congr 1

set_option maxHeartbeats 800000 in
theorem ref_sum (s : Nat) (A : Option Addr) (n c : Nat) (xs : List Int) (w : World) (hs : s < 65536) (hx : Rd .u8 w A n xs) (hp : ∀ k : Nat, 0 ≤ xs[k]?.getD 0 ∧ xs[k]?.getD 0 ≤ 255) (hn : n ≤ 140737488355328) :
    Calls Try.prog 17 #[.int .i64 s, .slice A n c] w fun e w' => e = .returned (.int .i64 (csum s xs)) ∧ w = w' := by
  have Hl := hid hx.1
  go_enter Try.func17, Try.ntmps17
  go_wp2
  go_loop [0, 5] (fun v i => ∃ k : Nat, k ≤ n ∧ i = .int .i64 k ∧ v = .int .i64 (csum s (xs.take k))) (fun _ i => n - (intOf i).toNat)
  case atStart => exact ⟨0, Nat.zero_le _, rfl, rfl⟩
  case round =>
    obtain ⟨k, hk, rfl, rfl⟩ := hrel
    by_cases hlt : k < n
    · obtain ⟨b, off, rfl, hbl, hc⟩ := hx.2 (by omega)
      have hck := hc k hlt
      obtain ⟨hpk, hpk2⟩ := hp k
      clear hc hx
      have hslt := csum_lt s (xs.take k) hs
      have Hst := hid (csum_take s xs k (by rw [Hl.out]; exact hlt))
      obtain ⟨x, hxk⟩ := Int.eq_ofNat_of_zero_le hpk
      have Hx := hid hxk
      rw [hxk] at hck hpk2
      have hx2 : x < 256 := by omega
      clear hxk hpk
      go_wp2_with (first | (go_at_call 18; refine (ref_step _ _ _ hslt hx2).mono ?_; rintro e w' ⟨rfl, rfl⟩))
      go_round
      case rel => exact ⟨k + 1, by omega, by go_num, by rw [Hst.out, Hx.out]; rfl⟩
      case measure => simp [intOf]; omega
    · obtain rfl : k = n := by omega
      go_wp2
      go_ret
      exact ⟨by rw [List.take_of_length_le (by rw [Hl.out]; omega)]; rfl, rfl⟩

set_option maxHeartbeats 800000 in
theorem ref_may (A : Option Addr) (n c : Nat) (xs : List Int) (w : World) (hx : Rd .u8 w A n xs) (hp : ∀ k : Nat, 0 ≤ xs[k]?.getD 0 ∧ xs[k]?.getD 0 ≤ 255) (hn : n ≤ 140737488355328) :
    Calls Try.prog 16 #[.slice A n c] w fun e w' => e = .returned (.bool (bitsB xs)) ∧ w = w' := by
  have Hl := hid hx.1
  go_enter Try.func16, Try.ntmps16
  go_wp2
  go_loop [3] (fun i => ∃ k : Nat, k ≤ n ∧ i = .int .i64 k ∧ Hid (∀ j : Nat, j < k → xs[j]?.getD 0 ≤ 1)) (fun i => n - (intOf i).toNat)
  case atStart => exact ⟨0, Nat.zero_le _, rfl, hid (fun j hj => absurd hj (by omega))⟩
  case round =>
    obtain ⟨k, hk, rfl, hall⟩ := hrel
    by_cases hlt : k < n
    · obtain ⟨b, off, rfl, hbl, hc⟩ := hx.2 (by omega)
      have hck := hc k hlt
      obtain ⟨hpk, hpk2⟩ := hp k
      clear hc hx
      by_cases h1 : xs[k]?.getD 0 ≤ 1
      · have H1 := hid h1
        go_wp2
        go_round
        case rel => exact ⟨k + 1, by omega, by go_num, hid (fun j hj => by
          rcases Nat.lt_or_ge j k with h | h
          · exact hall.out j h
          · obtain rfl : j = k := by omega
            exact H1.out)⟩
        case measure => simp [intOf]; omega
      · have hbad : bitsB xs = false := bitsB_not k (by rw [Hl.out]; exact hlt) (by omega)
        have Hbad := hid hbad
        clear hbad
        go_wp2
        go_ret
        exact ⟨retB Hbad.out.symm, rfl⟩
    · obtain rfl : k = n := by omega
      have hgood : bitsB xs = true := bitsB_of (fun j hj => hall.out j (by rw [Hl.out] at hj; exact hj))
      have Hgood := hid hgood
      clear hgood
      go_wp2
      go_ret
      exact ⟨retB Hgood.out.symm, rfl⟩

set_option maxHeartbeats 800000 in
theorem ref_over (sum : Int) (A : Option Addr) (n c : Nat) (xs : List Int) (w : World) (hx : Rd .u8 w A n xs) (hp : ∀ k : Nat, 0 ≤ xs[k]?.getD 0 ∧ xs[k]?.getD 0 ≤ 255) (hn : n ≤ 140737488355328) :
    Calls Try.prog 13 #[.int .i64 sum, .slice A n c] w fun e w' => e = .returned (.tuple #[.int .i64 (overS sum xs), .int .i64 (overE sum xs)]) ∧ w = w' := by
  have Hm := hid (ref_may A n c xs w hx hp hn)
  rcases (show sum < 0 ∨ 65535 < sum ∨ (0 ≤ sum ∧ sum ≤ 65535) by omega) with h | h | ⟨h0, h1⟩
  · have H1 := hid (overS_out (xs := xs) (.inl h))
    have H2 := hid (overE_out (xs := xs) (.inl h))
    go_enter Try.func13, Try.ntmps13
    go_wp2
    go_ret2
    exact ⟨tup2 H1.out.symm H2.out.symm, rfl⟩
  · have H1 := hid (overS_out (xs := xs) (.inr h))
    have H2 := hid (overE_out (xs := xs) (.inr h))
    have h' : ¬ sum < 0 := by omega
    go_enter Try.func13, Try.ntmps13
    go_wp2
    go_ret2
    exact ⟨tup2 H1.out.symm H2.out.symm, rfl⟩
  · obtain ⟨s, rfl⟩ := Int.eq_ofNat_of_zero_le h0
    have Hs := hid (ref_sum s A n c xs w (by omega) hx hp hn)
    clear hx hp
    by_cases hb : bitsB xs = true
    · have HS := hid (overS_ok h0 h1 hb)
      have HE := hid (overE_ok h0 h1 hb)
      go_enter Try.func13, Try.ntmps13
      go_wp2_with (first | (go_at_call 16; refine Hm.out.mono ?_; rintro e w' ⟨rfl, rfl⟩) | (go_at_call 17; refine Hs.out.mono ?_; rintro e w' ⟨rfl, rfl⟩))
      go_ret2
      exact ⟨tup2 HS.out.symm HE.out.symm, rfl⟩
    · have hb' : bitsB xs = false := by simpa using hb
      have HS := hid (overS_bad (sum := s) hb')
      have HE := hid (overE_bad h0 h1 hb')
      clear hb
      go_enter Try.func13, Try.ntmps13
      go_wp2_with (first | (go_at_call 16; refine Hm.out.mono ?_; rintro e w' ⟨rfl, rfl⟩) | (go_at_call 17; refine Hs.out.mono ?_; rintro e w' ⟨rfl, rfl⟩))
      go_ret2
      exact ⟨tup2 HS.out.symm HE.out.symm, rfl⟩

set_option maxHeartbeats 400000 in
theorem ref_of (A : Option Addr) (n c : Nat) (xs : List Int) (w : World) (hx : Rd .u8 w A n xs) (hp : ∀ k : Nat, 0 ≤ xs[k]?.getD 0 ∧ xs[k]?.getD 0 ≤ 255) (hn : n ≤ 140737488355328) :
    Calls Try.prog 12 #[.slice A n c] w fun e w' => e = .returned (.tuple #[.int .i64 (overS 65535 xs), .int .i64 (overE 65535 xs)]) ∧ w = w' := by
  have Hm := hid (ref_over 65535 A n c xs w hx hp hn)
  clear hx hp
  go_enter Try.func12, Try.ntmps12
  go_wp2_with (first | (go_at_call 13; refine Hm.out.mono ?_; rintro e w' ⟨rfl, rfl⟩))
  go_ret2
  exact ⟨rfl, rfl⟩

set_option maxHeartbeats 400000 in
theorem crc_of (A : Option Addr) (n c : Nat) (xs : List Int) (w : World) (hx : Rd .u8 w A n xs) (hp : ∀ k : Nat, 0 ≤ xs[k]?.getD 0) (hn : n ≤ 140737488355328) :
    Calls Try.prog 10 #[.slice A n c] w fun e w' => e = .returned (.tuple #[.int .i64 (overS 65535 xs), .int .i64 (overE 65535 xs)]) ∧ Below w.heap.size w w' := by
  have Hm := hid (crc_over 65535 A n c xs w hx hp hn)
  clear hx hp
  go_enter Try.func10, Try.ntmps10
  go_wp2_with (first | (go_at_call 9; refine Hm.out.mono ?_; rintro e w' ⟨rfl, hb⟩))
  go_ret2
  exact ⟨rfl, hb⟩

set_option maxHeartbeats 800000 in
theorem alive_any (w : World) : Calls Try.prog 11 #[] w fun e w' => e = .returned (.bool true) ∧ Below w.heap.size w w' := by
  have r1 := hid (crc_of none 0 0 [] w Rd.nil (by simp) (by omega))
  go_enter Try.func11, Try.ntmps11
  go_wp2_with fail
  refine r1.out.mono ?_
  rintro e w1 ⟨rfl, hb1⟩
  rw [show overS 65535 [] = 65535 by decide +kernel, show overE 65535 [] = 0 by decide +kernel]
  clear r1
  go_wp2_with fail
  refine (crc_of _ 1 _ [1] _ (Rd.lit _ [1] _ _ rfl rfl) (fun k => by rcases k with _ | k <;> simp) (by omega)).mono ?_
  rintro e w2 ⟨rfl, hb2⟩
  rw [show overS 65535 [1] = 65534 by decide +kernel, show overE 65535 [1] = 0 by decide +kernel]
  go_wp2_with fail
  refine (crc_of _ 16 _ (List.replicate 16 1) _ (Rd.lit _ _ _ _ rfl rfl) (fun k => by rw [List.getElem?_replicate]; split <;> simp) (by omega)).mono ?_
  rintro e w3 ⟨rfl, hb3⟩
  rw [show overS 65535 (List.replicate 16 1) = 0 by decide +kernel, show overE 65535 (List.replicate 16 1) = 0 by decide +kernel]
  go_wp2
  go_ret
  have e2 : w1.heap.size ≤ (w1.alloc (.cells #[.int .u8 1] 5)).heap.size := by simp
  refine ⟨rfl, hb1.trans ?_⟩
  have b2 := ((Below.refl w1.heap.size w1).alloc (Nat.le_refl _) (.cells #[.int .u8 1] 5)).trans (hb2.mono (by simp))
  exact ((b2.alloc b2.size _).trans (hb3.mono (Nat.le_trans b2.size (by simp)))).mono hb1.size
end Go.Proofs.Ytjfbgakebldjcaa
