/-
  The walks of the reference of layer 30: Filled where the run is short, Lines.
-/
import Derived.Test.YtdcidpgabhbhbaaLoseF
import Derived.StillTailTactics
namespace Go.Proofs.Ytdcidpgabhbhbaa
set_option linter.unusedVariables false
open Go.RowKit

theorem wrap_small (x : Int) (h1 : -4611686018427387904 ≤ x) (h2 : x ≤ 4611686018427387904) : IntKind.i64.wrap x = x := by
  rw [IntKind.wrap_i64]; omega

set_option maxRecDepth 8000 in
set_option maxHeartbeats 1600000 in
theorem rfilled2 (A A' : Option Addr) (c c' : Nat) (xs ys : List Int) (at_ many : Int) (w : World) (hx : Rd .i64 w A 256 xs) (hy : Rd .i64 w A' 256 ys) (h1 : 1 ≤ at_) (h2 : at_ ≤ many) (hm : many ≤ 2) (hox : anyOdd xs = false) (hoy : anyOdd ys = false) :
    Calls Try.prog 39 #[.slice A 256 c, .slice A' 256 c', .int .i64 at_, .int .i64 many] w (RetOwn w 3 .i64 (loseL xs ys at_ many)) := by
  have hly := hy.1
  have HAT := hid (fun n : Nat => show loseAt xs ys at_ many n = ((xs[n]?.getD 0) * (many + 1 - at_) + (ys[n]?.getD 0) * at_) / (many + 1) by unfold loseAt; rw [if_pos (by rw [hly]; omega)])
  have OX := hid (anyOdd_at hox)
  have OY := hid (anyOdd_at hoy)
  have Hx := hid hx
  have Hy := hid hy
  have hb0 := Below.refl w.heap.size w
  clear hx hy hly hox hoy
  go_enter Try.func39, Try.ntmps39
  go_wp2_with (first | (at_make; refine wpList_makeI _ rfl _ _ _ rfl 3 .i64 8 Try.underlying22 Try.info_int (by omega) _ _ 256 hb0 (Nat.le_refl _) (by omega) .i64 .i64 rfl rfl ?_; intro w5 hown5 b5 _ _))
  clear hb0
  go_loopw [10] (fun i wr => ∃ k : Nat, ∃ zs : List Int, k ≤ 256 ∧ i = .int .i64 k ∧ Own w.heap.size 3 .i64 wr (.slice (some ⟨w.heap.size, 0, none⟩) 256 256) zs ∧ Hid (zs.length = 256) ∧ Hid (∀ j, j < k → zs[j]?.getD 0 = loseAt xs ys at_ many j) ∧ Below w.heap.size w wr) (fun i _ => 256 - (intOf i).toNat)
  case atStart => exact ⟨0, _, by omega, rfl, hown5, hid List.length_replicate, hid (fun j hj => absurd hj (by omega)), b5⟩
  case round =>
    obtain ⟨k, zs, hk, rfl, hown, hzl, hall, hbel⟩ := hrel
    by_cases hlt : k < 256
    · have hlt' : (k : Int) < 256 := by omega
      obtain ⟨ba, oa, rfl, _⟩ := Hx.out.addr (by omega)
      obtain ⟨bb, ob, rfl, _⟩ := Hy.out.addr (by omega)
      have cx := (Hx.out.below hbel (Nat.le_refl _)).cellAt k hlt
      have cy := (Hy.out.below hbel (Nat.le_refl _)).cellAt k hlt
      have cw := hown.cellAt hzl.out k hlt
      have fw := hown.frozenAt hzl.out k
      have hbw := hown.blockGe
      obtain ⟨hs1, _⟩ := hown.set_ hzl.out k (loseAt xs ys at_ many k)
      have hs1 := hs1.drew
      have hnl : Hid ((zs.set k (loseAt xs ys at_ many k)).length = 256) := hid (by rw [List.length_set]; exact hzl.out)
      have hna : Hid (∀ j, j < k + 1 → (zs.set k (loseAt xs ys at_ many k))[j]?.getD 0 = loseAt xs ys at_ many j) := hid (fun j hj => by
        rcases Nat.lt_or_ge j k with h | h
        · rw [List.getElem?_set_ne (by omega)]; exact hall.out j h
        · obtain rfl : j = k := by omega
          rw [List.getElem?_set_self (by rw [hzl.out]; exact hlt)]; rfl)
      have hbel' := (hbel.setCell (p := ⟨w.heap.size, k, none⟩) (Nat.le_refl _) (.int .i64 (loseAt xs ys at_ many k))).drew
      obtain ⟨ox1, ox2⟩ := OX.out k
      obtain ⟨oy1, oy2⟩ := OY.out k
      have hat := HAT.out k
      clear hown hbel
      have R1 : Hid (∀ wr, Calls Try.prog 47 #[.int .i64 (xs[k]?.getD 0 * (many + 1 - at_) + (ys[k]?.getD 0) * at_), .int .i64 (many + 1)] wr fun e w' => e = .returned (.int .i64 (loseAt xs ys at_ many k)) ∧ wr = w') := hid (by
        intro wr
        rw [hat]
        have hc : (many = 1 ∧ at_ = 1) ∨ (many = 2 ∧ at_ = 1) ∨ (many = 2 ∧ at_ = 2) := by omega
        refine down_any _ _ wr (by omega) (by omega) ?_ ?_
        · rcases hc with ⟨rfl, rfl⟩ | ⟨rfl, rfl⟩ | ⟨rfl, rfl⟩ <;> omega
        · rcases hc with ⟨rfl, rfl⟩ | ⟨rfl, rfl⟩ | ⟨rfl, rfl⟩ <;> omega)
      have hp : -1073741824 ≤ (xs[k]?.getD 0) * (many + 1 - at_) ∧ (xs[k]?.getD 0) * (many + 1 - at_) ≤ 1073741824 ∧ -1073741824 ≤ (ys[k]?.getD 0) * at_ ∧ (ys[k]?.getD 0) * at_ ≤ 1073741824 := by
        have hc : (many = 1 ∧ at_ = 1) ∨ (many = 2 ∧ at_ = 1) ∨ (many = 2 ∧ at_ = 2) := by omega
        rcases hc with ⟨rfl, rfl⟩ | ⟨rfl, rfl⟩ | ⟨rfl, rfl⟩ <;> omega
      obtain ⟨p1, p2, p3, p4⟩ := hp
      clear hat HAT OX OY Hx Hy hall hzl
      generalize loseAt xs ys at_ many k = V at *
      generalize xs[k]?.getD 0 = X at *
      generalize ys[k]?.getD 0 = Y at *
      have W1 := wrap_small (many + 1) (by omega) (by omega)
      have W2 := wrap_small (many + 1 - at_) (by omega) (by omega)
      have W3 := wrap_small (X * (many + 1 - at_)) (by omega) (by omega)
      have W4 := wrap_small (Y * at_) (by omega) (by omega)
      have W5 := wrap_small (X * (many + 1 - at_) + Y * at_) (by omega) (by omega)
      go_wp2
      go_still_tail 22, (by kernel_rfl)
      refine wpStill_step (fun K hK => ?_)
      go_simp
      refine ⟨.int .i64 V, ?_, hK _ ?_⟩
      · exact (R1.out _).mono (fun e w' h => ⟨h.1, h.2.symm⟩)
      clear hK K W1 W2 W3 W4 W5
      repeat still_step
      refine wpStill_nil ?_
      change wpList _ _ _ _ _ wr.drew
      go_wp2
      go_roundw
      case rel => exact ⟨k + 1, _, by omega, by go_num, hs1, hnl, hna, hbel'⟩
      case measure => simp [intOf]; omega
    · obtain rfl : k = 256 := by omega
      have HZ := hid (loseL_of (xs := xs) (ys := ys) (at_ := at_) (many := many) hzl.out (fun j hj => hall.out j hj))
      go_wp2
      go_ret
      rw [← HZ.out]
      exact ⟨_, rfl, hown, hbel⟩

set_option maxRecDepth 8000 in
set_option maxHeartbeats 1600000 in
theorem rlines_any (A A' : Option Addr) (n c n' c' : Nat) (xs ys : List Int) (at_ many : Int) (w : World) (hx : Rd .i64 w A n xs) (hy : Rd .i64 w A' n' ys) :
    Calls Try.prog 24 #[.slice A n c, .slice A' n' c', .int .i64 at_, .int .i64 many] w (RetOwnE w 3 .i64 (loseR xs ys at_ many) (loseE xs ys at_ many)) := by
  have hlx := hx.1
  have hly := hy.1
  have b0 := Below.refl w.heap.size w
  by_cases h : at_ < 1 ∨ many < at_ ∨ 65536 < many
  · have e := loseE_arg (xs := xs) (ys := ys) h
    have E := hid e
    have R := hid (loseR_no (show loseE xs ys at_ many ≠ 0 by omega))
    have hcs : at_ < 1 ∨ (¬ at_ < 1 ∧ many < at_) ∨ (¬ at_ < 1 ∧ ¬ many < at_ ∧ 65536 < many) := by omega
    clear e h hx hy hlx hly
    rcases hcs with h | ⟨h, h'⟩ | ⟨h, h', h''⟩
    all_goals
      go_enter Try.func24, Try.ntmps24
      go_wp2
      go_ret2
      rw [R.out, E.out]
      exact ⟨_, rfl, Own.none_, b0⟩
  have g1 : 1 ≤ at_ := by omega
  have g2 : at_ ≤ many := by omega
  have g3 : many ≤ 65536 := by omega
  by_cases h2 : n ≠ 256 ∨ (n' ≠ 256 ∧ n' ≠ 0)
  · have e := loseE_many (xs := xs) (ys := ys) (at_ := at_) (many := many) h (by omega)
    have E := hid e
    have R := hid (loseR_no (show loseE xs ys at_ many ≠ 0 by omega))
    clear e h hx hy hlx hly
    by_cases h4 : n = 256
    · have h5 : ((n' : Int) != 256) = true := by simp; omega
      have h6 : ((n' : Int) != 0) = true := by simp; omega
      have h7 : ((n : Int) != 256) = false := by simp; omega
      clear h2 h4
      go_enter Try.func24, Try.ntmps24
      go_wp2
      go_ret2
      rw [R.out, E.out]
      exact ⟨_, rfl, Own.none_, b0⟩
    · have h7 : ((n : Int) != 256) = true := by simp; omega
      clear h2 h4
      go_enter Try.func24, Try.ntmps24
      go_wp2
      go_ret2
      rw [R.out, E.out]
      exact ⟨_, rfl, Own.none_, b0⟩
  obtain rfl : n = 256 := by omega
  have hn' : n' = 256 ∨ n' = 0 := by omega
  have r1 := hid (rin_any A 256 c xs w hx (by omega))
  have r2 := hid (rin_any A' n' c' ys w hy (by omega))
  by_cases ho : anyOdd xs = true ∨ anyOdd ys = true
  · have e := loseE_odd (xs := xs) (ys := ys) (at_ := at_) (many := many) h (by omega) ho
    have E := hid e
    have R := hid (loseR_no (show loseE xs ys at_ many ≠ 0 by omega))
    clear e h hx hy hlx hly h2
    by_cases hox : anyOdd xs = true
    · rw [hox] at r1
      clear ho hox
      rcases hn' with rfl | rfl
      all_goals
        go_enter Try.func24, Try.ntmps24
        go_wp2_with fail
        refine r1.out.mono ?_
        rintro e w' ⟨rfl, rfl⟩
        clear r1 r2
        go_wp2
        go_ret2
        rw [R.out, E.out]
        exact ⟨_, rfl, Own.none_, b0⟩
    · have hoy : anyOdd ys = true := by rcases ho with h | h; exact absurd h hox; exact h
      have hox : anyOdd xs = false := by simpa using hox
      rw [hox] at r1
      rw [hoy] at r2
      clear ho hox hoy
      rcases hn' with rfl | rfl
      all_goals
        go_enter Try.func24, Try.ntmps24
        go_wp2_with fail
        refine r1.out.mono ?_
        rintro e w' ⟨rfl, rfl⟩
        go_wp2_with fail
        refine r2.out.mono ?_
        rintro e w' ⟨rfl, rfl⟩
        clear r1 r2
        go_wp2
        go_ret2
        rw [R.out, E.out]
        exact ⟨_, rfl, Own.none_, b0⟩
  have hox : anyOdd xs = false := by simpa using (not_or.1 ho).1
  have hoy : anyOdd ys = false := by simpa using (not_or.1 ho).2
  have e := loseE_ok (xs := xs) (ys := ys) (at_ := at_) (many := many) h (by omega) hox hoy
  have E := hid e
  have R := hid (loseR_ok e)
  have r3 : Hid (Calls Try.prog 39 #[.slice A 256 c, .slice A' n' c', .int .i64 at_, .int .i64 many] w (RetOwn w 3 .i64 (loseL xs ys at_ many))) := hid (by
    by_cases hm : many ≤ 2 ∧ 0 < n'
    · obtain rfl : n' = 256 := by omega
      exact rfilled2 A A' c c' xs ys at_ many w hx hy g1 g2 hm.1 hox hoy
    by_cases ha : at_ ≤ 8
    · obtain ⟨t, rfl⟩ : ∃ t : Nat, at_ = t := Int.eq_ofNat_of_zero_le (by omega)
      exact rfilled4 A A' c n' c' xs ys t many w hx hy (by omega) (by omega) hn' hm hox
    · exact rfilled3 A A' c n' c' xs ys at_ many w hy (by omega) hn' (by omega))
  rw [hox] at r1
  rw [hoy] at r2
  clear e h hx hy hlx hly h2 ho hox hoy
  rcases hn' with rfl | rfl
  all_goals
    go_enter Try.func24, Try.ntmps24
    go_wp2_with fail
    refine r1.out.mono ?_
    rintro e w' ⟨rfl, rfl⟩
    go_wp2_with fail
    refine r2.out.mono ?_
    rintro e w' ⟨rfl, rfl⟩
    clear r1 r2
    go_wp2_with fail
    refine r3.out.mono ?_
    rintro e w' ⟨v, rfl, hown, hb⟩
    clear r3
    go_wp2
    go_ret2
    rw [R.out, E.out]
    exact ⟨_, rfl, hown, hb⟩
end Go.Proofs.Ytdcidpgabhbhbaa
