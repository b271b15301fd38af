/-
  The walks of the reference of layer 30: Filled, Lines.
-/
import Derived.Test.YtdcidpgabhbhbaaLoseR
namespace Go.Proofs.Ytdcidpgabhbhbaa
set_option linter.unusedVariables false
open Go.RowKit

def twoI (j : Nat) : Int := 2 ^ j
theorem twoI_succ (j : Nat) : twoI (j + 1) = 2 * twoI j := by unfold twoI; rw [Int.pow_succ, Int.mul_comm]
theorem twoI_bd (j : Nat) (h : j ≤ 8) : 1 ≤ twoI j ∧ twoI j ≤ 256 := by
  have hc : j = 0 ∨ j = 1 ∨ j = 2 ∨ j = 3 ∨ j = 4 ∨ j = 5 ∨ j = 6 ∨ j = 7 ∨ j = 8 := by omega
  rcases hc with rfl | rfl | rfl | rfl | rfl | rfl | rfl | rfl | rfl <;> decide

set_option maxRecDepth 8000 in
set_option maxHeartbeats 1600000 in
theorem rfilled4 (A A' : Option Addr) (c n' c' : Nat) (xs ys : List Int) (t : Nat) (many : Int) (w : World) (hx : Rd .i64 w A 256 xs) (hy : Rd .i64 w A' n' ys) (h1 : 1 ≤ t) (ha : t ≤ 8) (h : n' = 256 ∨ n' = 0) (hm : ¬ (many ≤ 2 ∧ 0 < n')) (hox : anyOdd xs = false) :
    Calls Try.prog 39 #[.slice A 256 c, .slice A' n' c', .int .i64 t, .int .i64 many] w (RetOwn w 3 .i64 (loseL xs ys t many)) := by
  have hly := hy.1
  have HAT := hid (fun n : Nat => show loseAt xs ys t many n = (xs[n]?.getD 0) / twoI t by unfold loseAt; rw [if_neg (by rw [hly]; exact hm), if_neg (by omega)]; rfl)
  have OX := hid (anyOdd_at hox)
  have Hx := hid hx
  have hb0 := Below.refl w.heap.size w
  have ha' : (t : Int) ≤ 8 := by omega
  have hcase : (many ≤ 2 ∧ n' = 0) ∨ (¬ many ≤ 2 ∧ n' = 256) ∨ (¬ many ≤ 2 ∧ n' = 0) := by omega
  clear hx hy hly hox hm h
  rcases hcase with ⟨hm2, rfl⟩ | ⟨hm2, rfl⟩ | ⟨hm2, rfl⟩
  all_goals
    go_enter Try.func39, Try.ntmps39
    go_wp2_with (first | (at_make; refine wpList_makeI _ rfl _ _ _ rfl 3 .i64 8 Try.underlying22 Try.info_int (by omega) _ _ 256 hb0 (Nat.le_refl _) (by omega) .i64 .i64 rfl rfl ?_; intro w5 hown5 b5 _ _))
    clear hb0
    go_loopw [10] (fun i wr => ∃ k : Nat, ∃ zs : List Int, k ≤ 256 ∧ i = .int .i64 k ∧ Own w.heap.size 3 .i64 wr (.slice (some ⟨w.heap.size, 0, none⟩) 256 256) zs ∧ Hid (zs.length = 256) ∧ Hid (∀ j, j < k → zs[j]?.getD 0 = loseAt xs ys t many j) ∧ Below w.heap.size w wr) (fun i _ => 256 - (intOf i).toNat)
    case atStart => exact ⟨0, _, by omega, rfl, hown5, hid List.length_replicate, hid (fun j hj => absurd hj (by omega)), b5⟩
    case round =>
      obtain ⟨k, zs, hk, rfl, hown, hzl, hall, hbel⟩ := hrel
      by_cases hlt : k < 256
      · have hlt' : (k : Int) < 256 := by omega
        obtain ⟨ba, oa, rfl, _⟩ := Hx.out.addr (by omega)
        have cx := (Hx.out.below hbel (Nat.le_refl _)).cellAt k hlt
        have cw := hown.cellAt hzl.out k hlt
        have fw := hown.frozenAt hzl.out k
        have hbw := hown.blockGe
        obtain ⟨hs1, _⟩ := hown.set_ hzl.out k (loseAt xs ys t many k)
        have hnl : Hid ((zs.set k (loseAt xs ys t many k)).length = 256) := hid (by rw [List.length_set]; exact hzl.out)
        have hna : Hid (∀ j, j < k + 1 → (zs.set k (loseAt xs ys t many k))[j]?.getD 0 = loseAt xs ys t many j) := hid (fun j hj => by
          rcases Nat.lt_or_ge j k with h | h
          · rw [List.getElem?_set_ne (by omega)]; exact hall.out j h
          · obtain rfl : j = k := by omega
            rw [List.getElem?_set_self (by rw [hzl.out]; exact hlt)]; rfl)
        have hbel' := hbel.setCell (p := ⟨w.heap.size, k, none⟩) (Nat.le_refl _) (.int .i64 (loseAt xs ys t many k))
        obtain ⟨ox1, ox2⟩ := OX.out k
        clear hown hbel
        go_wp2
        go_loop [11, 12] (fun v i => ∃ j : Nat, ∃ y : Int, j ≤ t ∧ i = .int .i64 j ∧ v = .int .i64 y ∧ Hid (y = twoI j)) (fun _ i => t - (intOf i).toNat)
        case atStart => exact ⟨0, 1, by omega, rfl, rfl, hid rfl⟩
        case round =>
          obtain ⟨j, y, hj, rfl, rfl, hy⟩ := hrel
          by_cases hjt : j < t
          · have hyb : 1 ≤ y ∧ y ≤ 256 := by rw [hy.out]; exact twoI_bd j (by omega)
            obtain ⟨hy1, hy2⟩ := hyb
            go_wp2
            go_round
            case rel => exact ⟨j + 1, 2 * y, by omega, by go_num, by go_num, hid (by rw [hy.out, twoI_succ])⟩
            case measure => simp [intOf]; omega
          · obtain rfl : j = t := by omega
            have hyb : 1 ≤ y ∧ y ≤ 256 := by rw [hy.out]; exact twoI_bd j (by omega)
            obtain ⟨hy1, hy2⟩ := hyb
            have R1 : Hid (Calls Try.prog 47 #[.int .i64 (xs[k]?.getD 0), .int .i64 y] wr fun e w' => e = .returned (.int .i64 (loseAt xs ys j many k)) ∧ wr = w') := hid (by
              rw [HAT.out k, ← hy.out]
              exact down_any _ y wr (by omega) (by omega) (by omega) (by omega))
            go_wp2_with fail
            refine R1.out.mono ?_
            rintro e w7 ⟨rfl, rfl⟩
            go_wp2
            go_roundw
            case rel => exact ⟨k + 1, _, by omega, by go_num, hs1, hnl, hna, hbel'⟩
            case measure => simp [intOf]; omega
      · obtain rfl : k = 256 := by omega
        have HZ := hid (loseL_of (xs := xs) (ys := ys) (at_ := t) (many := many) hzl.out (fun j hj => hall.out j hj))
        go_wp2
        go_ret
        rw [← HZ.out]
        exact ⟨_, rfl, hown, hbel⟩

set_option maxRecDepth 8000 in
set_option maxHeartbeats 1600000 in
theorem rfilled3 (A A' : Option Addr) (c n' c' : Nat) (xs ys : List Int) (at_ many : Int) (w : World) (hy : Rd .i64 w A' n' ys) (ha : 8 < at_) (h : n' = 256 ∨ n' = 0) (hm : ¬ many ≤ 2) :
    Calls Try.prog 39 #[.slice A 256 c, .slice A' n' c', .int .i64 at_, .int .i64 many] w (RetOwn w 3 .i64 (loseL xs ys at_ many)) := by
  have hly := hy.1
  have HAT := hid (fun n : Nat => show loseAt xs ys at_ many n = 0 by unfold loseAt; rw [if_neg (fun h2 => hm h2.1), if_pos ha])
  have hb0 := Below.refl w.heap.size w
  clear hy hly
  rcases h with rfl | rfl
  all_goals
    go_enter Try.func39, Try.ntmps39
    go_wp2_with (first | (at_make; refine wpList_makeI _ rfl _ _ _ rfl 3 .i64 8 Try.underlying22 Try.info_int (by omega) _ _ 256 hb0 (Nat.le_refl _) (by omega) .i64 .i64 rfl rfl ?_; intro w5 hown5 b5 _ _))
    clear hb0
    have hz : ∃ zs : List Int, Own w.heap.size 3 .i64 w5 (.slice (some ⟨w.heap.size, 0, none⟩) 256 256) zs ∧ Hid (zs = loseL xs ys at_ many) := by
      refine ⟨_, hown5, hid (loseL_of List.length_replicate fun j hj => ?_)⟩
      rw [HAT.out j, List.getElem?_replicate, if_pos hj]; rfl
    obtain ⟨zs, hown, HZ⟩ := hz
    clear hown5
    go_loop [10] (fun i => ∃ k : Nat, k ≤ 256 ∧ i = .int .i64 k) (fun i => 256 - (intOf i).toNat)
    case atStart => exact ⟨0, by omega, rfl⟩
    case round =>
      obtain ⟨k, hk, rfl⟩ := hrel
      by_cases hlt : k < 256
      · have hlt' : (k : Int) < 256 := by omega
        go_wp2
        go_round
        case rel => exact ⟨k + 1, by omega, by go_num⟩
        case measure => simp [intOf]; omega
      · obtain rfl : k = 256 := by omega
        go_wp2
        go_ret
        rw [← HZ.out]
        exact ⟨_, rfl, hown, b5⟩
end Go.Proofs.Ytdcidpgabhbhbaa
