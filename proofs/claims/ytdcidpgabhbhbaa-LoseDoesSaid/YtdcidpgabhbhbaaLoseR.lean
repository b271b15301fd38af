/-
  The walks of the reference of layer 30: After, Seq, down, in; and reedpiperef11.Same.
-/
import Derived.Test.YtdcidpgabhbhbaaLoseL
import Derived.Deep.RegionWith
import Derived.BigQuiet
import Derived.Deep.QuietTactic
namespace Go.Proofs.Ytdcidpgabhbhbaa
set_option linter.unusedVariables false
open Go.RowKit

set_option maxHeartbeats 400000 in
theorem after_any (a : Int) (w : World) (h0 : 0 ≤ a) (h1 : a ≤ 3) : Calls Try.prog 37 #[.int .u8 a] w fun e w' => e = .returned (.int .u8 (seqN a)) ∧ w = w' := by
  rcases (show a = 0 ∨ a = 1 ∨ a = 2 ∨ a = 3 by omega) with rfl | rfl | rfl | rfl
  all_goals
    go_enter Try.func37, Try.ntmps37
    go_wp2
    go_ret
    exact ⟨rfl, rfl⟩

set_option maxHeartbeats 400000 in
theorem rseq_any (a : Int) (w : World) (h0 : 0 ≤ a) (h1 : a ≤ 255) : Calls Try.prog 23 #[.int .u8 a] w fun e w' => e = .returned (.tuple #[.int .u8 (seqN a), .int .i64 (seqE a)]) ∧ w = w' := by
  by_cases h : 3 < a
  · have e1 := hid (show seqN a = 0 by unfold seqN; rw [if_pos h])
    have e2 := hid (show seqE a = 2 by unfold seqE; rw [if_pos h])
    go_enter Try.func23, Try.ntmps23
    go_wp2
    go_ret2
    exact ⟨tup2 e1.out.symm e2.out.symm, rfl⟩
  · have e2 := hid (show seqE a = 0 by unfold seqE; rw [if_neg h])
    have r1 := hid (after_any a w h0 (by omega))
    generalize seqN a = s at *
    go_enter Try.func23, Try.ntmps23
    go_wp2_with fail
    refine r1.out.mono ?_
    rintro e w' ⟨rfl, rfl⟩
    go_wp2
    go_ret2
    exact ⟨tup2 rfl e2.out.symm, rfl⟩

theorem down_bd (a b : Int) (hb : 0 < b) (h1 : -2147483648 ≤ a) (h2 : a ≤ 2147483648) :
    -2147483648 ≤ a.tdiv b ∧ a.tdiv b ≤ 2147483648 ∧ -2147483648 ≤ a.tdiv b * b ∧ a.tdiv b * b ≤ 2147483648 ∧ (a < a.tdiv b * b → a / b = a.tdiv b - 1) ∧ (¬ a < a.tdiv b * b → a / b = a.tdiv b) := by
  have e1 := Int.mul_tdiv_add_tmod a b
  have fl := floor_of a b hb
  rw [Int.mul_comm] at e1
  have hq : -2147483648 ≤ a.tdiv b ∧ a.tdiv b ≤ 2147483648 := by
    rcases Int.le_total 0 a with h | h
    · have := Int.tdiv_nonneg h (Int.le_of_lt hb)
      have h3 : a.tdiv b ≤ a := by rw [Int.tdiv_eq_ediv_of_nonneg h]; exact Int.ediv_le_self b h
      omega
    · have h4 : (-a).tdiv b = -(a.tdiv b) := Int.neg_tdiv a b
      have h5 : 0 ≤ (-a).tdiv b := Int.tdiv_nonneg (by omega) (Int.le_of_lt hb)
      have h6 : (-a).tdiv b ≤ -a := by rw [Int.tdiv_eq_ediv_of_nonneg (by omega)]; exact Int.ediv_le_self b (by omega)
      omega
  have hm : (0 ≤ a → 0 ≤ a.tmod b ∧ a.tmod b ≤ a) ∧ (a ≤ 0 → a ≤ a.tmod b ∧ a.tmod b ≤ 0) := by
    constructor
    · intro h
      have h1 : 0 ≤ a.tdiv b * b := Int.mul_nonneg (Int.tdiv_nonneg h (Int.le_of_lt hb)) (Int.le_of_lt hb)
      have h2 := Int.tmod_nonneg b h
      omega
    · intro h
      have h4 : (-a).tdiv b = -(a.tdiv b) := Int.neg_tdiv a b
      have h1 : 0 ≤ (-a).tdiv b * b := Int.mul_nonneg (Int.tdiv_nonneg (by omega) (Int.le_of_lt hb)) (Int.le_of_lt hb)
      rw [h4, Int.neg_mul] at h1
      have h5 : (-a).tmod b = -(a.tmod b) := Int.neg_tmod a b
      have h2 := Int.tmod_nonneg b (show 0 ≤ -a by omega)
      omega
  generalize a.tdiv b * b = Q at *
  generalize a.tmod b = M at *
  refine ⟨hq.1, hq.2, ?_, ?_, ?_, ?_⟩
  · rcases Int.le_total 0 a with h | h
    · have := hm.1 h; omega
    · have := hm.2 h; omega
  · rcases Int.le_total 0 a with h | h
    · have := hm.1 h; omega
    · have := hm.2 h; omega
  · intro h; rw [fl, if_pos (by omega)]
  · intro h; rw [fl, if_neg (by omega)]

set_option maxHeartbeats 400000 in
theorem down_any (a b : Int) (w : World) (hb : 0 < b) (hb2 : b ≤ 2147483648) (h1 : -2147483648 ≤ a) (h2 : a ≤ 2147483648) : Calls Try.prog 47 #[.int .i64 a, .int .i64 b] w fun e w' => e = .returned (.int .i64 (a / b)) ∧ w = w' := by
  obtain ⟨q1, q2, p1, p2, y1, y2⟩ := down_bd a b hb h1 h2
  have hb0 : b ≠ 0 := by omega
  have hbb : (b == 0) = false := by simp; omega
  by_cases h : a < a.tdiv b * b
  · have Y := hid (y1 h)
    clear y1 y2
    go_enter Try.func47, Try.ntmps47
    go_wp2
    go_ret
    exact ⟨retI Y.out.symm, rfl⟩
  · have Y := hid (y2 h)
    clear y1 y2
    go_enter Try.func47, Try.ntmps47
    go_wp2
    go_ret
    exact ⟨retI Y.out.symm, rfl⟩

set_option maxHeartbeats 800000 in
theorem rin_any (A : Option Addr) (n c : Nat) (xs : List Int) (w : World) (hx : Rd .i64 w A n xs) (hn : n ≤ 140737488355328) :
    Calls Try.prog 38 #[.slice A n c] w fun e w' => e = .returned (.bool (!anyOdd xs)) ∧ w = w' := by
  have Hl := hid hx.1
  have Hx := hid hx
  clear hx
  go_enter Try.func38, Try.ntmps38
  go_wp2
  go_loop [3] (fun i => ∃ k : Nat, k ≤ n ∧ i = .int .i64 k ∧ Hid (∀ j, j < k → oddB (xs[j]?.getD 0) = false)) (fun i => n - (intOf i).toNat)
  case atStart => exact ⟨0, Nat.zero_le _, rfl, hid (fun j hj => absurd hj (by omega))⟩
  case round =>
    obtain ⟨k, hk, rfl, hall⟩ := hrel
    by_cases hlt : k < n
    · obtain ⟨b, off, rfl, hbl⟩ := Hx.out.addr (by omega)
      have ck := Hx.out.cellAt k hlt
      rcases (show xs[k]?.getD 0 < -268435455 ∨ (¬ xs[k]?.getD 0 < -268435455 ∧ 268435455 < xs[k]?.getD 0) ∨ (¬ xs[k]?.getD 0 < -268435455 ∧ ¬ 268435455 < xs[k]?.getD 0) by omega) with h | ⟨h, h'⟩ | ⟨h, h'⟩
      · have HY := hid (anyOdd_yes k (by rw [Hl.out]; exact hlt) (oddB_lo h))
        go_wp2
        go_ret
        exact ⟨retB (by rw [HY.out]; rfl), rfl⟩
      · have HY := hid (anyOdd_yes k (by rw [Hl.out]; exact hlt) (oddB_hi h'))
        go_wp2
        go_ret
        exact ⟨retB (by rw [HY.out]; rfl), rfl⟩
      · have H2 := hid (oddB_no h h')
        go_wp2
        go_round
        case rel => exact ⟨k + 1, by omega, by go_num, hid (fun j hj => by
          rcases Nat.lt_or_ge j k with h | h
          · exact hall.out j h
          · obtain rfl : j = k := by omega
            exact H2.out)⟩
        case measure => simp [intOf]; omega
    · obtain rfl : k = n := by omega
      have HN := hid (anyOdd_of (xs := xs) (fun j hj => hall.out j (by rw [Hl.out] at hj; exact hj)))
      go_wp2
      go_ret
      exact ⟨retB (by rw [HN.out]; rfl), rfl⟩

def sameB (xs ys : List Int) : Bool := decide (xs = ys)
theorem sameB_len {xs ys : List Int} (h : xs.length ≠ ys.length) : sameB xs ys = false := by
  unfold sameB; rw [decide_eq_false]; intro e; exact h (by rw [e])
theorem sameB_no {xs ys : List Int} (k : Nat) (h : xs[k]?.getD 0 ≠ ys[k]?.getD 0) : sameB xs ys = false := by
  unfold sameB; rw [decide_eq_false]; intro e; exact h (by rw [e])
theorem sameB_yes {xs ys : List Int} (hl : xs.length = ys.length) (h : ∀ k, k < xs.length → xs[k]?.getD 0 = ys[k]?.getD 0) : sameB xs ys = true := by
  unfold sameB; rw [decide_eq_true]
  apply List.ext_getElem hl
  intro j h1 h2
  have := h j h1
  rw [List.getElem?_eq_getElem h1, List.getElem?_eq_getElem h2] at this
  exact this

set_option maxHeartbeats 800000 in
theorem same_any (A B : Option Addr) (n c m d : Nat) (xs ys : List Int) (w : World) (hx : Rd .i64 w A n xs) (hy : Rd .i64 w B m ys) (hn : n ≤ 140737488355328) :
    Calls Try.prog 21 #[.slice A n c, .slice B m d] w fun e w' => e = .returned (.bool (sameB xs ys)) ∧ ∃ q, w' = w.drewN q := by
  have Hl := hid hx.1
  have Hl2 := hid hy.1
  have Hx := hid hx
  have Hy := hid hy
  clear hx hy
  by_cases hnm : n = m
  case neg =>
    have t1 : ((n : Int) != (m : Int)) = true := by simp; omega
    have S := hid (sameB_len (xs := xs) (ys := ys) (by rw [Hl.out, Hl2.out]; exact hnm))
    go_enter Try.func21, Try.ntmps21
    go_wp2
    go_ret
    exact ⟨retB S.out.symm, 0, rfl⟩
  subst hnm
  go_enter Try.func21, Try.ntmps21
  go_wp2
  go_loopw [5] (fun i wr => ∃ k : Nat, k ≤ n ∧ i = .int .i64 k ∧ Hid (∀ j, j < k → xs[j]?.getD 0 = ys[j]?.getD 0) ∧ ∃ q, wr = w.drewN q) (fun i _ => n - (intOf i).toNat)
  case atStart => exact ⟨0, Nat.zero_le _, rfl, hid (fun j hj => absurd hj (by omega)), 0, rfl⟩
  case round =>
    obtain ⟨k, hk, rfl, hall, q, rfl⟩ := hrel
    by_cases hlt : k < n
    · obtain ⟨b, off, rfl, hbl⟩ := Hx.out.addr (by omega)
      obtain ⟨b', off', rfl, hbl'⟩ := Hy.out.addr (by omega)
      have cx := fun q => (Hx.out.drewN q).cellAt k hlt
      have cy := fun q => (Hy.out.drewN q).cellAt k hlt
      by_cases h1 : xs[k]?.getD 0 = ys[k]?.getD 0
      · have t1 : (xs[k]?.getD 0 != ys[k]?.getD 0) = false := by simp [h1]
        have H1 := hid h1
        clear h1
        go_wp2
        go_quiet (fail)
        go_wp2
        go_roundw
        case rel => exact ⟨k + 1, by omega, by go_num, hid (fun j hj => by
          rcases Nat.lt_or_ge j k with h | h
          · exact hall.out j h
          · obtain rfl : j = k := by omega
            exact H1.out), _, rfl⟩
        case measure => simp [intOf]; omega
      · have t1 : (xs[k]?.getD 0 != ys[k]?.getD 0) = true := by simp [h1]
        have H1 := hid (sameB_no k h1)
        clear h1
        go_wp2
        go_quiet (fail)
        go_wp2
        go_ret
        first | exact ⟨retB H1.out.symm, _, rfl⟩ | exact ⟨retB H1.out.symm, q + nq, by rw [World.drewN_drewN]⟩
    · obtain rfl : k = n := by omega
      have H1 := hid (sameB_yes (xs := xs) (ys := ys) (by rw [Hl.out, Hl2.out]) (by rw [Hl.out]; exact hall.out))
      go_wp2
      go_ret
      exact ⟨retB H1.out.symm, q, rfl⟩
end Go.Proofs.Ytdcidpgabhbhbaa
