import Derived.Test.YtgheplondkoedaaBitsI
/-
 The walks of package bits: Put and Get.
-/
namespace Go.Proofs.Ytgheplondkoedaa
set_option linter.unusedVariables false
open Go.RowKit

/-- The call returned one row of its own and an error's number. -/
def RetOwnE (W : World) (ty : TypeId) (k : IntKind) (xs : List Int) (err : Int) (e : Ending) (w' : World) : Prop :=
 ∃ v, e = .returned (.tuple #[v, .int .i64 err]) ∧ Own W.heap.size ty k w' v xs ∧ Below W.heap.size W w'

theorem Own.empty {B : Nat} {ty : TypeId} {k : IntKind} (w : World) (hB : B ≤ w.heap.size) : Own B ty k (w.alloc (.cells #[] ty)) (.slice (some ⟨w.heap.size, 0, none⟩) 0 0) [] :=
 World.ownsRow_lit w #[] 0 hB (by unfold maxLen; omega) rfl

set_option maxHeartbeats 400000 in
theorem clone_u8 (A : Option Addr) (n c : Nat) (xs : List Int) (w : World) (hx : Rd .u8 w A n xs) (hn : n ≤ 17592186044000) :
  Calls Try.prog 89 #[.slice A n c] w (RetOwn w 5 .u8 xs) := by
 have Hx := hid hx
 have Hl := hid hx.1
 rcases A with _ | a
 ·have hn0 : n = 0 := by
   rcases Nat.eq_zero_or_pos n with h | h
   ·exact h
   ·obtain ⟨b, off, e, _⟩ := hx.2 h
    cases e
  subst hn0
  obtain rfl : xs = [] := List.eq_nil_of_length_eq_zero hx.1
  clear hx Hx Hl
  have hq : (binOp .eql 22 (.slice none 0 c) (.slice none 0 0)).run Try.prog w = .ok (.bool true) w := Lib.run_eql_slice_nil w 22 5 none 0 c 0 0 Try.underlying22
  go_enter Try.func89, Try.ntmps89
  go_wp2
  go_ret
  exact ⟨_, rfl, Own.none_, Below.refl _ _⟩
 ·have hq : (binOp .eql 22 (.slice (some a) n c) (.slice none 0 0)).run Try.prog w = .ok (.bool false) w := Lib.run_eql_slice_nil w 22 5 (some a) n c 0 0 Try.underlying22
  have h0 := Own.empty (B := w.heap.size) (ty := 5) (k := .u8) w (Nat.le_refl _)
  have hb0 : Below w.heap.size w (w.alloc (.cells #[] 5)) := (Below.refl _ w).alloc (Nat.le_refl _) _
  have hx0 := hx.below hb0 (Nat.le_refl _)
  have hs0 : w.heap.size ≤ (w.alloc (.cells #[] 5)).heap.size := hb0.size
  have hlen : ([] : List Int).length + n < 17592186044416 := by simp; omega
  clear hx Hx Hl
  go_enter Try.func89, Try.ntmps89
  go_wp2_with (first | (at_builtin; refine wpList_join _ rfl _ _ _ rfl 5 .u8 1 Try.underlying22 Try.info_u8 (by omega) w.heap.size w _ _ _ _ _ _ h0 hx0 (fun h => by cases h) hb0 hs0 hlen rfl rfl ?_; intro v' w' hown' hbel' _ _))
  go_ret
  exact ⟨_, rfl, by simpa using hown', hbel'⟩

set_option maxHeartbeats 400000 in
theorem sized_any (n : Int) (w : World) : Calls Try.prog 87 #[.int .i64 n] w fun e w' => e = .returned (.bool (decide (0 ≤ n ∧ n ≤ 31))) ∧ w = w' := by
 by_cases h0 : 0 ≤ n
 ·by_cases h1 : n ≤ 31
  ·have e : decide (0 ≤ n ∧ n ≤ 31) = true := by simp; omega
   rw [e]
   go_enter Try.func87, Try.ntmps87
   go_wp2
   go_ret
   exact ⟨rfl, rfl⟩
  ·have e : decide (0 ≤ n ∧ n ≤ 31) = false := by simp; omega
   rw [e]
   clear e
   go_enter Try.func87, Try.ntmps87
   go_wp2
   go_ret
   exact ⟨rfl, rfl⟩
 ·have e : decide (0 ≤ n ∧ n ≤ 31) = false := by simp; omega
  rw [e]
  clear e
  go_enter Try.func87, Try.ntmps87
  go_wp2
  go_ret
  exact ⟨rfl, rfl⟩

theorem shr_zero (n s : Nat) : ((n : Int) / 2 ^ s != 0) = decide (2 ^ s ≤ n) := by
 have hc : (n : Int) / (2 : Int) ^ s = ((n / 2 ^ s : Nat) : Int) := by push_cast; rfl
 rw [hc]
 have hp : 0 < 2 ^ s := Nat.pow_pos (by omega)
 by_cases h : 2 ^ s ≤ n
 ·rw [decide_eq_true h]
  have : 0 < n / 2 ^ s := Nat.div_pos h hp
  simp
  omega
 ·rw [decide_eq_false h]
  have : n / 2 ^ s = 0 := Nat.div_eq_of_lt (by omega)
  simp [this]

set_option maxHeartbeats 1000000 in
theorem put_any (A : Option Addr) (m c : Nat) (xs : List Int) (num size : Int) (w : World) (hx : Rd .u8 w A m xs) (hm : m ≤ 17592186043000) (hn : -9223372036854775808 ≤ num ∧ num ≤ 9223372036854775807) :
  Calls Try.prog 50 #[.slice A m c, .int .i64 num, .int .i64 size] w (RetOwnE w 5 .u8 (putL xs num size) (putE num size)) := by
 have Hl := hid hx.1
 by_cases hs : 0 ≤ size ∧ size ≤ 31
 case neg =>
  have e : putOk num size = false := by unfold putOk; rw [decide_eq_false]; omega
  have PL := hid (show putL xs num size = [] by simp [putL, e])
  have PE := hid (show putE num size = 2 by simp [putE, e])
  have hz := sized_any size w
  rw [decide_eq_false hs] at hz
  have Hz := hid hz
  clear hz hs e hx
  go_enter Try.func50, Try.ntmps50
  go_wp2_with fail
  refine Hz.out.mono ?_
  rintro e w' ⟨rfl, rfl⟩
  go_wp2
  go_ret2
  rw [PL.out, PE.out]
  exact ⟨_, rfl, Own.none_, Below.refl _ _⟩
 have hz := sized_any size w
 rw [decide_eq_true hs] at hz
 have Hz := hid hz
 clear hz
 obtain ⟨hs0, hs1⟩ := hs
 by_cases hn0 : num < 0
 ·have e : putOk num size = false := by unfold putOk; rw [decide_eq_false]; omega
  have PL := hid (show putL xs num size = [] by simp [putL, e])
  have PE := hid (show putE num size = 2 by simp [putE, e])
  clear e hx
  go_enter Try.func50, Try.ntmps50
  go_wp2_with fail
  refine Hz.out.mono ?_
  rintro e w' ⟨rfl, rfl⟩
  go_wp2
  go_ret2
  rw [PL.out, PE.out]
  exact ⟨_, rfl, Own.none_, Below.refl _ _⟩
 obtain ⟨n, rfl⟩ := Int.eq_ofNat_of_zero_le (show 0 ≤ num by omega)
 obtain ⟨s, rfl⟩ := Int.eq_ofNat_of_zero_le hs0
 have hsh := shr_zero n s
 have hpow : ((n : Int) < (2 : Int) ^ (s : Int).toNat) ↔ n < 2 ^ s := by
  rw [Int.toNat_natCast, show (2 : Int) ^ s = ((2 ^ s : Nat) : Int) by push_cast; rfl]
  omega
 by_cases hbig : 2 ^ s ≤ n
 ·have e : putOk n s = false := by unfold putOk; rw [decide_eq_false]; rw [hpow]; omega
  have PL := hid (show putL xs n s = [] by simp [putL, e])
  have PE := hid (show putE n s = 2 by simp [putE, e])
  rw [decide_eq_true hbig] at hsh
  clear e hx hpow hbig
  go_enter Try.func50, Try.ntmps50
  go_wp2_with fail
  refine Hz.out.mono ?_
  rintro e w' ⟨rfl, rfl⟩
  go_wp2
  go_ret2
  rw [PL.out, PE.out]
  exact ⟨_, rfl, Own.none_, Below.refl _ _⟩
 ·have e : putOk n s = true := by unfold putOk; rw [decide_eq_true]; rw [hpow]; omega
  have PL := hid (show putL xs n s = xs ++ bitsOf n s by simp [putL, e])
  have PE := hid (show putE n s = 0 by simp [putE, e])
  rw [decide_eq_false hbig] at hsh
  have Hcl := hid (clone_u8 A m c xs w hx (by omega))
  clear e hx hpow hbig
  go_enter Try.func50, Try.ntmps50
  go_wp2_with fail
  refine Hz.out.mono ?_
  rintro e w' ⟨rfl, rfl⟩
  go_wp2_with fail
  refine Hcl.out.mono ?_
  intro e w1 hr
  obtain ⟨A1, c1, rfl, hown1, _, _, hb1⟩ := hr.opens Hl.out
  clear hr Hcl Hz hsh
  go_wp2_with fail
  refine (each_any _ _ w1).mono ?_
  rintro e w2 ⟨rfl, rfl⟩
  go_wp2_with fail
  have bN := Boxed.new w1 3 (.int .i64 n)
  have bS := Boxed.new (w1.alloc (.cells #[.int .i64 n] 3)) 3 (.int .i64 s)
  rw [World.size_alloc] at bS
  refine (appendSeq_any w.heap.size A1 m c1 xs w1.heap.size (w1.heap.size + 1) n s (by omega) (by omega) (by rw [Hl.out]; omega) _ ((hown1.alloc _).alloc _) (by simp; have := hb1.size; omega) (bN.alloc _) bS).mono ?_
  rintro e w3 ⟨v, rfl, hown3, hb3⟩
  go_wp2
  go_ret2
  rw [PL.out, PE.out]
  have hs1 := hb1.size
  exact ⟨_, rfl, hown3, (((hb1.alloc hs1 _).alloc (by simp; omega) _).trans hb3)⟩

theorem tup3 {k1 k2 k3 : IntKind} {a b c d e f : Int} (h1 : a = d) (h2 : b = e) (h3 : c = f) : Ending.returned (.tuple #[.int k1 a, .int k2 b, .int k3 c]) = .returned (.tuple #[.int k1 d, .int k2 e, .int k3 f]) := by rw [h1, h2, h3]

theorem i64_push (v x : Nat) (hv : v < 2147483648) (hx : x ≤ 1) : bits .or .i64 ((v : Int) * 2) (x : Int) = ((2 * v + x : Nat) : Int) := by
 have h := i64_or_nat (2 * v) x (by omega) (by omega)
 rw [nat_join 1 (2 * v) x (by omega) (by omega)] at h
 rw [← h]
 congr 1
 omega

set_option maxHeartbeats 1000000 in
theorem get_any (A : Option Addr) (n c : Nat) (xs : List Int) (at_ size : Int) (w : World) (hx : Rd .u8 w A n xs) (hn : n ≤ 140737488355328) (hp : ∀ k : Nat, 0 ≤ xs[k]?.getD 0 ∧ xs[k]?.getD 0 ≤ 255) (ha : -9223372036854775808 ≤ at_ ∧ at_ ≤ 9223372036854775807) :
  Calls Try.prog 76 #[.slice A n c, .int .i64 at_, .int .i64 size] w fun e w' => e = .returned (.tuple #[.int .i64 (getN xs at_ size), .int .i64 (getP xs at_ size), .int .i64 (getE xs at_ size)]) ∧ w = w' := by
 have hl := hx.1
 have Hl := hid hl
 by_cases hs : 0 ≤ size ∧ size ≤ 31
 case neg =>
  have e := getE_arg (b := xs) (at_ := at_) (size := size) (by omega)
  have E := hid e
  have EN := hid (getN_no (show getE xs at_ size ≠ 0 by omega))
  have EP := hid (getP_no (show getE xs at_ size ≠ 0 by omega))
  have hz := sized_any size w
  rw [decide_eq_false hs] at hz
  have Hz := hid hz
  clear hz hs e hx hl hp
  go_enter Try.func76, Try.ntmps76
  go_wp2_with fail
  refine Hz.out.mono ?_
  rintro e w' ⟨rfl, rfl⟩
  go_wp2
  go_ret3
  exact ⟨tup3 EN.out.symm EP.out.symm E.out.symm, rfl⟩
 have hz := sized_any size w
 rw [decide_eq_true hs] at hz
 have Hz := hid hz
 clear hz
 obtain ⟨hs0, hs1⟩ := hs
 by_cases ha0 : at_ < 0
 ·have e := getE_arg (b := xs) (at_ := at_) (size := size) (by omega)
  have E := hid e
  have EN := hid (getN_no (show getE xs at_ size ≠ 0 by omega))
  have EP := hid (getP_no (show getE xs at_ size ≠ 0 by omega))
  clear e hx hl hp
  go_enter Try.func76, Try.ntmps76
  go_wp2_with fail
  refine Hz.out.mono ?_
  rintro e w' ⟨rfl, rfl⟩
  go_wp2
  go_ret3
  exact ⟨tup3 EN.out.symm EP.out.symm E.out.symm, rfl⟩
 obtain ⟨a, rfl⟩ := Int.eq_ofNat_of_zero_le (show 0 ≤ at_ by omega)
 obtain ⟨s, rfl⟩ := Int.eq_ofNat_of_zero_le hs0
 by_cases ha1 : n < a
 ·have e := getE_arg (b := xs) (at_ := (a : Int)) (size := (s : Int)) (by omega)
  have E := hid e
  have EN := hid (getN_no (show getE xs a s ≠ 0 by omega))
  have EP := hid (getP_no (show getE xs a s ≠ 0 by omega))
  clear e hx hl hp
  go_enter Try.func76, Try.ntmps76
  go_wp2_with fail
  refine Hz.out.mono ?_
  rintro e w' ⟨rfl, rfl⟩
  go_wp2
  go_ret3
  exact ⟨tup3 EN.out.symm EP.out.symm E.out.symm, rfl⟩
 by_cases hend : n < a + s
 ·have e := getE_end (b := xs) (at_ := (a : Int)) (size := (s : Int)) (by omega) (by omega)
  have E := hid e
  have EN := hid (getN_no (show getE xs a s ≠ 0 by omega))
  have EP := hid (getP_no (show getE xs a s ≠ 0 by omega))
  have hd : (n : Int) - a < s := by omega
  have hd0 : (0 : Int) ≤ (n : Int) - a := by omega
  clear e hx hl hp
  go_enter Try.func76, Try.ntmps76
  go_wp2_with fail
  refine Hz.out.mono ?_
  rintro e w' ⟨rfl, rfl⟩
  go_wp2
  go_ret3
  exact ⟨tup3 EN.out.symm EP.out.symm E.out.symm, rfl⟩
 have hd : ¬ (n : Int) - a < s := by omega
 have hd0 : (0 : Int) ≤ (n : Int) - a := by omega
 clear hl
 have Hx := hid hx
 have Hp := hid hp
 clear hx hp
 go_enter Try.func76, Try.ntmps76
 go_wp2_with fail
 refine Hz.out.mono ?_
 rintro e w' ⟨rfl, rfl⟩
 clear Hz
 go_wp2
 go_loop [6, 32] (fun v i => ∃ k : Nat, k ≤ s ∧ i = .int .i64 k ∧ v = .int .i64 (numOf ((xs.drop a).take k)) ∧ Hid (∀ y ∈ (xs.drop a).take k, y = 0 ∨ y = 1)) (fun _ i => s - (intOf i).toNat)
 case atStart => exact ⟨0, Nat.zero_le _, rfl, rfl, hid (fun y hy => by simp at hy)⟩
 case round =>
  obtain ⟨k, hk, rfl, rfl, hall⟩ := hrel
  by_cases hlt : k < s
  ·obtain ⟨b, off, rfl, hbl⟩ := Hx.out.addr (by omega)
   have hck := Hx.out.cellAt (a + k) (by omega)
   rw [show off + (a + k) = off + a + k by omega] at hck
   have hck' := hck
   rw [show off + a + k = off + (a + k) by omega] at hck'
   obtain ⟨hp0, hp1⟩ := Hp.out (a + k)
   have HS := hid (cut_succ xs a k (by rw [Hl.out]; omega))
   have hlen := cut_len xs a k (by rw [Hl.out]; omega)
   have hnlt := numOf_lt _ hall.out
   rw [hlen] at hnlt
   have hpw : 2 ^ k ≤ 2 ^ 30 := Nat.pow_le_pow_right (by omega) (by omega)
   have hv : numOf ((xs.drop a).take k) < 2147483648 := by omega
   have HL := hid hlen
   clear hlen hnlt hpw
   obtain ⟨x, hxk⟩ := Int.eq_ofNat_of_zero_le hp0
   have HXK := hid hxk
   rw [hxk] at hck hck' hp1
   clear hxk hp0
   by_cases h1 : x ≤ 1
   ·have h1' : (x : Int) ≤ 1 := by omega
    generalize hgen : numOf ((xs.drop a).take k) = v at hv
    have HG := hid hgen
    clear hgen
    go_wp2
    go_round
    case rel => exact ⟨k + 1, by omega, by go_num, by rw [HS.out, numOf_snoc, HG.out, HXK.out, Int.toNat_natCast]; rw [← i64_push v x hv h1], hid (fun y hy => by
     rw [HS.out] at hy
     rcases List.mem_append.1 hy with h | h
     ·exact hall.out y h
     ·rw [HXK.out] at h; simp at h; omega)⟩
    case measure => simp [intOf]; omega
   ·have h1' : ¬ (x : Int) ≤ 1 := by omega
    have hb : ((xs.drop a).take s).all (fun x => decide (x ≤ 1)) = false := by
     by_cases h : ((xs.drop a).take s).all (fun x => decide (x ≤ 1)) = true
     ·exfalso
      have h2 := List.all_eq_true.1 h (xs[a + k]?.getD 0) (by
       have h3 := cut_at xs a s k hlt (by rw [Hl.out]; omega)
       have h4 := cut_len xs a s (by rw [Hl.out]; omega)
       rw [← h3, List.getElem?_eq_getElem (by omega)]
       exact List.getElem_mem _)
      rw [HXK.out] at h2
      simp at h2
      omega
     ·simpa using h
    have E := hid (getE_bad (b := xs) (a := a) (s := s) (by omega) (by rw [Hl.out]; omega) hb)
    have EN := hid (getN_no (show getE xs a s ≠ 0 by rw [E.out]; omega))
    have EP := hid (getP_no (show getE xs a s ≠ 0 by rw [E.out]; omega))
    clear hb
    go_wp2
    go_ret3
    exact ⟨tup3 EN.out.symm EP.out.symm E.out.symm, rfl⟩
  ·obtain rfl : k = s := by omega
   have hb : ((xs.drop a).take k).all (fun x => decide (x ≤ 1)) = true := List.all_eq_true.2 (fun y hy => by rcases hall.out y hy with rfl | rfl <;> rfl)
   have E := hid (getE_ok (b := xs) (a := a) (s := k) (by omega) (by rw [Hl.out]; omega) hb)
   have EN := hid (getN_ok (b := xs) (a := a) (s := k) (by omega) (by rw [Hl.out]; omega) hb)
   have EP := hid (getP_ok (b := xs) (a := a) (s := k) (by omega) (by rw [Hl.out]; omega) hb)
   clear hb
   go_wp2
   go_ret3
   exact ⟨tup3 EN.out.symm EP.out.symm E.out.symm, rfl⟩
end Go.Proofs.Ytgheplondkoedaa

