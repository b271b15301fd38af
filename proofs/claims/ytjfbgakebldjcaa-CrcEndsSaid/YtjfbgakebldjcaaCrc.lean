/-
  The walks of package crc.
-/
import Derived.Test.YtjfbgakebldjcaaBase
import Derived.Test.YtjfbgakebldjcaaCrcP
namespace Go.Proofs.Ytjfbgakebldjcaa
set_option linter.unusedVariables false
open Go.RowKit

theorem u16_double (s : Nat) : IntKind.u16.wrap ((s : Int) * 2) = ((2 * s % 65536 : Nat) : Int) := by
  rw [IntKind.wrap_u16]; omega
theorem u16_flip (s : Nat) (h : s < 65536) : bits .xor .u16 (s : Int) 32773 = ((s ^^^ 32773 : Nat) : Int) := u16_xor_nat s 32773 h (by omega)

set_option maxHeartbeats 400000 in
theorem crc_step (bit s : Nat) (w : World) (hs : s < 65536) (hb : bit < 2) :
    Calls Try.prog 15 #[.int .u8 bit, .pointer (some ⟨w.heap.size, 0, none⟩)] (w.alloc (.cells #[.int .u16 s] 32)) fun e w' => e = .returned (.tuple #[]) ∧ w.alloc (.cells #[.int .u16 (cstep s bit)] 32) = w' := by
  have hs1 : (s : Int) ≤ 65535 := by omega
  have hb1 : (bit : Int) ≤ 1 := by omega
  go_enter Try.func15, Try.ntmps15
  by_cases h : s / 32768 = bit
  · have ht : (((s : Int) / 32768) != (bit : Int)) = false := by simp; omega
    go_wp2
    go_end0
    refine ⟨rfl, ?_⟩
    rw [u16_double, cstep, if_pos h]
  · have ht : (((s : Int) / 32768) != (bit : Int)) = true := by simp; omega
    go_wp2
    go_end0
    refine ⟨rfl, ?_⟩
    rw [u16_double, u16_flip _ (by omega), cstep, if_neg h]


set_option maxHeartbeats 400000 in
theorem crc_over_out (sum : Int) (A : Option Addr) (n c : Nat) (xs : List Int) (w : World) (h : sum < 0 ∨ 65535 < sum) :
    Calls Try.prog 9 #[.int .i64 sum, .slice A n c] w fun e w' => e = .returned (.tuple #[.int .i64 (overS sum xs), .int .i64 (overE sum xs)]) ∧ Below w.heap.size w w' := by
  have h1 := overS_out (xs := xs) h
  have h2 := overE_out (xs := xs) h
  have H1 := hid h1
  have H2 := hid h2
  clear h1 h2
  rcases h with h | h
  · go_enter Try.func9, Try.ntmps9
    go_wp2
    go_ret2
    exact ⟨tup2 H1.out.symm H2.out.symm, Below.refl _ _⟩
  · have h' : ¬ sum < 0 := by omega
    go_enter Try.func9, Try.ntmps9
    go_wp2
    go_ret2
    exact ⟨tup2 H1.out.symm H2.out.symm, Below.refl _ _⟩

set_option maxHeartbeats 800000 in
theorem crc_over (sum : Int) (A : Option Addr) (n c : Nat) (xs : List Int) (w : World) (hx : Rd .u8 w A n xs) (hp : ∀ k : Nat, 0 ≤ xs[k]?.getD 0) (hn : n ≤ 140737488355328) :
    Calls Try.prog 9 #[.int .i64 sum, .slice A n c] w fun e w' => e = .returned (.tuple #[.int .i64 (overS sum xs), .int .i64 (overE sum xs)]) ∧ Below w.heap.size w w' := by
  by_cases h0 : sum < 0 ∨ 65535 < sum
  · exact crc_over_out sum A n c xs w h0
  obtain ⟨s, rfl⟩ := Int.eq_ofNat_of_zero_le (show 0 ≤ sum by omega)
  have hs0 : ¬ (s : Int) < 0 := by omega
  have hs1 : (s : Int) ≤ 65535 := by omega
  clear h0
  have Hl := hid hx.1
  go_enter Try.func9, Try.ntmps9
  go_wp2
  go_loopw [21] (fun i wr => ∃ k : Nat, k ≤ n ∧ i = .int .i64 k ∧ Hid (∀ j : Nat, j < k → xs[j]?.getD 0 ≤ 1) ∧ w.alloc (.cells #[.int .u16 (csum s (xs.take k))] 32) = wr) (fun i _ => n - (intOf i).toNat)
  case atStart => exact ⟨0, Nat.zero_le _, rfl, hid (fun j hj => absurd hj (by omega)), rfl⟩
  case round =>
    obtain ⟨k, hk, rfl, hall, rfl⟩ := hrel
    by_cases hlt : k < n
    · obtain ⟨b, off, rfl, hbl, hc⟩ := hx.2 (by omega)
      have hck := hc k hlt
      have hpk := hp k
      have hck' : (w.alloc (.cells #[.int .u16 (csum s (xs.take k))] 32)).cell? ⟨b, off + k, none⟩ = some (.int .u8 (xs[k]?.getD 0)) := by
        rw [World.cell?_alloc_lt _ _ _ hbl]; exact hck
      clear hc hck hx
      have hslt := csum_lt s (xs.take k) (by omega)
      have Hst := hid (csum_take s xs k (by rw [Hl.out]; exact hlt))
      obtain ⟨x, hxk⟩ := Int.eq_ofNat_of_zero_le hpk
      have Hx := hid hxk
      rw [hxk] at hck'
      clear hxk hpk
      by_cases h1 : x < 2
      · have h1' : (x : Int) ≤ 1 := by omega
        go_wp2_with (first | (go_at_call 15; refine (crc_step _ _ _ hslt h1).mono ?_; rintro e w' ⟨rfl, rfl⟩))
        go_roundw
        case rel => exact ⟨k + 1, by omega, by go_num, hid (fun j hj => by
          rcases Nat.lt_or_ge j k with h | h
          · exact hall.out j h
          · obtain rfl : j = k := by omega
            rw [Hx.out]; omega), by rw [Hst.out, Hx.out]; rfl⟩
        case measure => simp [intOf]; omega
      · have h1' : ¬ (x : Int) ≤ 1 := by omega
        have hbad : bitsB xs = false := bitsB_not k (by rw [Hl.out]; exact hlt) (by rw [Hx.out]; omega)
        have Hbad := hid hbad
        clear hbad
        go_wp2
        go_ret2
        exact ⟨tup2 (overS_bad Hbad.out).symm (overE_bad (by omega) hs1 Hbad.out).symm, (Below.refl _ _).alloc (Nat.le_refl _) _⟩
    · obtain rfl : k = n := by omega
      have hgood : bitsB xs = true := bitsB_of (fun j hj => hall.out j (by rw [Hl.out] at hj; exact hj))
      have Hgood := hid hgood
      clear hgood
      have hslt := csum_lt s (xs.take k) (by omega)
      go_wp2
      go_ret2
      exact ⟨tup2 (by rw [overS_ok (by omega) hs1 Hgood.out, List.take_of_length_le (by rw [Hl.out]; omega)]; rfl) (overE_ok (by omega) hs1 Hgood.out).symm, (Below.refl _ _).alloc (Nat.le_refl _) _⟩
end Go.Proofs.Ytjfbgakebldjcaa
