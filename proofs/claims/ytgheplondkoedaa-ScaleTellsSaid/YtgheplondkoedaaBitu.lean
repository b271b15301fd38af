import Derived.Test.YtgheplondkoedaaBitt
/-
 The walks of the reference of layer 1: Two, Bits, Get (over Bitt).
-/
namespace Go.Proofs.Ytgheplondkoedaa
set_option linter.unusedVariables false
open Go.RowKit

/-- A power of two. -/
def twoN (s : Nat) : Nat := 2 ^ s

set_option maxHeartbeats 400000 in
theorem two_any (s : Nat) (w : World) (hs : s ≤ 31) : Calls Try.prog 103 #[.int .i64 s] w fun e w' => e = .returned (.int .i64 (twoN s)) ∧ w = w' := by
 go_enter Try.func103, Try.ntmps103
 go_wp2
 go_loop [3, 4] (fun x i => ∃ k v : Nat, k ≤ s ∧ i = .int .i64 k ∧ x = .int .i64 v ∧ Hid (v = twoN k)) (fun _ i => s - (intOf i).toNat)
 case atStart => exact ⟨0, 1, Nat.zero_le _, rfl, rfl, hid rfl⟩
 case round =>
  obtain ⟨k, v, hk, rfl, rfl, hv⟩ := hrel
  have hpw : 2 ^ k ≤ 2 ^ 31 := Nat.pow_le_pow_right (by omega) (by omega)
  have hvb : v ≤ 2147483648 := by rw [hv.out]; exact hpw
  clear hpw
  by_cases hlt : k < s
  ·go_wp2
   go_round
   case rel => exact ⟨k + 1, 2 * v, by omega, by go_num, by go_num, hid (by rw [hv.out]; unfold twoN; rw [Nat.pow_succ, Nat.mul_comm])⟩
   case measure => simp [intOf]; omega
  ·obtain rfl : k = s := by omega
   go_wp2
   go_ret
   exact ⟨retI (by rw [hv.out]), rfl⟩

set_option maxHeartbeats 400000 in
theorem rbits_any (s : Nat) : ∀ (n : Nat) (w : World), n ≤ 4611686018427387904 → s ≤ 63 → Calls Try.prog 109 #[.int .i64 n, .int .i64 s] w (RetOwn w 5 .u8 (bitsOf n s)) := by
 induction s with
 | zero =>
  intro n w hn hs
  go_enter Try.func109, Try.ntmps109
  go_wp2_with fail
  go_ret
  exact ⟨_, rfl, Own.none_, Below.refl _ _⟩
 | succ s ih =>
  intro n w hn hs
  have e0 : (((s + 1 : Nat) : Int) == 0) = false := by simp; omega
  have hn' : (n : Int) ≤ 4611686018427387904 := by omega
  have IH := hid (ih (n / 2) w (by omega) (by omega))
  clear ih
  have E1 := hid (show ((n : Int) / 2) = ((n / 2 : Nat) : Int) by omega)
  have E2 := hid (show (((s + 1 : Nat) : Int) - 1) = (s : Int) by omega)
  go_enter Try.func109, Try.ntmps109
  go_wp2_with fail
  rw [E1.out]
  refine IH.out.mono ?_
  rintro e w1 ⟨v, rfl, hown, hb⟩
  have hs1 := hb.size
  have hlen : (bitsOf (n / 2) s).length < 17592186044416 := by rw [bitsOf_len]; omega
  clear IH
  go_wp2_with (first | (at_builtin; refine wpList_push _ rfl _ _ _ rfl 5 .u8 1 Try.underlying22 Try.info_u8 (by omega) w.heap.size w _ _ _ hown hb hs1 hlen rfl rfl ?_; intro v' w2 hown2 hb2 _ _))
  go_ret
  exact ⟨_, rfl, by rw [bitsOf]; exact hown2, hb2⟩

set_option maxHeartbeats 1000000 in
set_option maxHeartbeats 1000000 in
theorem rget_any (A : Option Addr) (n c : Nat) (xs : List Int) (at_ size : Int) (w : World) (hx : Rd .u8 w A n xs) (hn : n ≤ 140737488355328) (hp : ∀ k : Nat, 0 ≤ xs[k]?.getD 0 ∧ xs[k]?.getD 0 ≤ 255) (ha : -9223372036854775808 ≤ at_ ∧ at_ ≤ 9223372036854775807) :
  Calls Try.prog 100 #[.slice A n c, .int .i64 at_, .int .i64 size] w fun e w' => e = .returned (.tuple #[.int .i64 (getN xs at_ size), .int .i64 (getP xs at_ size), .int .i64 (getE xs at_ size)]) ∧ w = w' := by
 have hl := hx.1
 have Hl := hid hl
 by_cases hbad : 0 ≤ size ∧ size ≤ 31 ∧ 0 ≤ at_ ∧ at_ ≤ n
 case neg =>
  have e := getE_arg (b := xs) (at_ := at_) (size := size) (by omega)
  have E := hid e
  have EN := hid (getN_no (show getE xs at_ size ≠ 0 by omega))
  have EP := hid (getP_no (show getE xs at_ size ≠ 0 by omega))
  clear e hx hl hp
  by_cases h0 : size < 0
  ·go_enter Try.func100, Try.ntmps100
   go_wp2
   go_ret3
   exact ⟨tup3 EN.out.symm EP.out.symm E.out.symm, rfl⟩
  by_cases h1 : 31 < size
  ·go_enter Try.func100, Try.ntmps100
   go_wp2
   go_ret3
   exact ⟨tup3 EN.out.symm EP.out.symm E.out.symm, rfl⟩
  by_cases h2 : at_ < 0
  ·go_enter Try.func100, Try.ntmps100
   go_wp2
   go_ret3
   exact ⟨tup3 EN.out.symm EP.out.symm E.out.symm, rfl⟩
  have h3 : (n : Int) < at_ := by omega
  clear hbad
  go_enter Try.func100, Try.ntmps100
  go_wp2
  go_ret3
  exact ⟨tup3 EN.out.symm EP.out.symm E.out.symm, rfl⟩
 obtain ⟨hs0, hs1, ha0, ha1⟩ := hbad
 obtain ⟨a, rfl⟩ := Int.eq_ofNat_of_zero_le ha0
 obtain ⟨s, rfl⟩ := Int.eq_ofNat_of_zero_le hs0
 by_cases hend : n < a + s
 ·have e := getE_end (b := xs) (at_ := (a : Int)) (size := (s : Int)) (by omega) (by omega)
  have E := hid e
  have EN := hid (getN_no (show getE xs a s ≠ 0 by omega))
  have EP := hid (getP_no (show getE xs a s ≠ 0 by omega))
  have hd : (n : Int) - a < s := by omega
  have hd0 : (0 : Int) ≤ (n : Int) - a := by omega
  clear e hx hl hp
  go_enter Try.func100, Try.ntmps100
  go_wp2
  go_ret3
  exact ⟨tup3 EN.out.symm EP.out.symm E.out.symm, rfl⟩
 have hd : ¬ (n : Int) - a < s := by omega
 have hd0 : (0 : Int) ≤ (n : Int) - a := by omega
 clear hl
 have Hx := hid hx
 have Hp := hid hp
 clear hx hp
 go_enter Try.func100, Try.ntmps100
 go_wp2
 go_loop [9, 10] (fun v i => ∃ k : Nat, k ≤ s ∧ i = .int .i64 ((a : Int) + k) ∧ v = .int .i64 (numOf ((xs.drop a).take k)) ∧ Hid (∀ y ∈ (xs.drop a).take k, y = 0 ∨ y = 1)) (fun _ i => a + s - (intOf i).toNat)
 case atStart => exact ⟨0, Nat.zero_le _, by simp, rfl, hid (fun y hy => by simp at hy)⟩
 case round =>
  obtain ⟨k, hk, rfl, rfl, hall⟩ := hrel
  by_cases hlt : k < s
  ·obtain ⟨b, off, rfl, hbl⟩ := Hx.out.addr (by omega)
   have hck := Hx.out.cellAt (a + k) (by omega)
   obtain ⟨hp0, hp1⟩ := Hp.out (a + k)
   have HS := hid (cut_succ xs a k (by rw [Hl.out]; omega))
   have hlen := cut_len xs a k (by rw [Hl.out]; omega)
   have hnlt := numOf_lt _ hall.out
   rw [hlen] at hnlt
   have hpw : 2 ^ k ≤ 2 ^ 30 := Nat.pow_le_pow_right (by omega) (by omega)
   have hv : numOf ((xs.drop a).take k) < 2147483648 := by omega
   clear hlen hnlt hpw
   obtain ⟨x, hxk⟩ := Int.eq_ofNat_of_zero_le hp0
   have HXK := hid hxk
   rw [hxk] at hck hp1
   clear hxk hp0
   by_cases h1 : x ≤ 1
   ·generalize hgen : numOf ((xs.drop a).take k) = v at hv
    have HG := hid hgen
    clear hgen
    have hrel' : Hid (∀ y ∈ (xs.drop a).take (k + 1), y = 0 ∨ y = 1) := hid (fun y hy => by
     rw [HS.out] at hy
     rcases List.mem_append.1 hy with h | h
     ·exact hall.out y h
     ·rw [HXK.out] at h; simp at h; omega)
    have hnum : Hid (((numOf ((xs.drop a).take (k + 1)) : Nat) : Int) = 2 * (v : Int) + (x : Int)) := hid (by rw [HS.out, numOf_snoc, HG.out, HXK.out, Int.toNat_natCast]; omega)
    by_cases hx0 : x = 0
    ·subst hx0
     go_wp2
     go_round
     case rel => exact ⟨k + 1, by omega, by go_num, by rw [hnum.out]; rfl, hrel'⟩
     case measure => simp [intOf]; omega
    ·obtain rfl : x = 1 := by omega
     go_wp2
     go_round
     case rel => exact ⟨k + 1, by omega, by go_num, by rw [hnum.out]; rfl, hrel'⟩
     case measure => simp [intOf]; omega
   ·have hb : ((xs.drop a).take s).all (fun x => decide (x ≤ 1)) = false := by
     by_cases h : ((xs.drop a).take s).all (fun x => decide (x ≤ 1)) = true
     ·exfalso
      have h2 := List.all_eq_true.1 h (xs[a + k]?.getD 0) (by
       have h3 := cut_at xs a s k hlt (by rw [Hl.out]; omega)
       have h4 := cut_len xs a s (by rw [Hl.out]; omega)
       rw [← h3, List.getElem?_eq_getElem (by omega)]
       exact List.getElem_mem _)
      rw [HXK.out] at h2
      simp at h2
      omega
     ·simpa using h
    have E := hid (getE_bad (b := xs) (a := a) (s := s) (by omega) (by rw [Hl.out]; omega) hb)
    have EN := hid (getN_no (show getE xs a s ≠ 0 by rw [E.out]; omega))
    have EP := hid (getP_no (show getE xs a s ≠ 0 by rw [E.out]; omega))
    clear hb
    have t0 : ((x : Int) != 0) = true := by simp; omega
    have t1 : ((x : Int) != 1) = true := by simp; omega
    go_wp2
    go_ret3
    exact ⟨tup3 EN.out.symm EP.out.symm E.out.symm, rfl⟩
  ·obtain rfl : k = s := by omega
   have hb : ((xs.drop a).take k).all (fun x => decide (x ≤ 1)) = true := List.all_eq_true.2 (fun y hy => by rcases hall.out y hy with rfl | rfl <;> rfl)
   have E := hid (getE_ok (b := xs) (a := a) (s := k) (by omega) (by rw [Hl.out]; omega) hb)
   have EN := hid (getN_ok (b := xs) (a := a) (s := k) (by omega) (by rw [Hl.out]; omega) hb)
   have EP := hid (getP_ok (b := xs) (a := a) (s := k) (by omega) (by rw [Hl.out]; omega) hb)
   clear hb
   go_wp2
   go_ret3
   exact ⟨tup3 EN.out.symm EP.out.symm E.out.symm, rfl⟩
end Go.Proofs.Ytgheplondkoedaa

