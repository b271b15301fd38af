/-
  The walks of lose.Seq and of the laws' own helpers of layer 30.
-/
import Derived.Test.YtdcidpgabhbhbaaLose
namespace Go.Proofs.Ytdcidpgabhbhbaa
set_option linter.unusedVariables false
open Go.RowKit

def seqN (a : Int) : Int := if 3 < a then 0 else if a = 0 ∨ a = 3 then 0 else 3
def seqE (a : Int) : Int := if 3 < a then 2 else 0

set_option maxHeartbeats 400000 in
theorem seq_any (a : Int) (w : World) (h0 : 0 ≤ a) (h1 : a ≤ 255) : Calls Try.prog 22 #[.int .u8 a] w fun e w' => e = .returned (.tuple #[.int .u8 (seqN a), .int .i64 (seqE a)]) ∧ w = w' := by
  rcases (show a = 0 ∨ a = 1 ∨ a = 2 ∨ a = 3 ∨ 3 < a by omega) with rfl | rfl | rfl | rfl | h
  · go_enter Try.func22, Try.ntmps22
    go_wp2
    go_ret2
    exact ⟨rfl, rfl⟩
  · go_enter Try.func22, Try.ntmps22
    go_wp2
    go_ret2
    exact ⟨rfl, rfl⟩
  · go_enter Try.func22, Try.ntmps22
    go_wp2
    go_ret2
    exact ⟨rfl, rfl⟩
  · go_enter Try.func22, Try.ntmps22
    go_wp2
    go_ret2
    exact ⟨rfl, rfl⟩
  · have e1 := hid (show seqN a = 0 by unfold seqN; rw [if_pos h])
    have e2 := hid (show seqE a = 2 by unfold seqE; rw [if_pos h])
    have t0 : (a == 0) = false := by simp; omega
    have t1 : (a == 1) = false := by simp; omega
    have t2 : (a == 2) = false := by simp; omega
    have t3 : (a == 3) = false := by simp; omega
    go_enter Try.func22, Try.ntmps22
    go_wp2
    go_ret2
    exact ⟨tup2 e1.out.symm e2.out.symm, rfl⟩

/-- 256 lines of one size. -/
def fill (x : Int) : List Int := (List.range 256).map fun _ => x
theorem fill_len (x : Int) : (fill x).length = 256 := by unfold fill; rw [List.length_map, List.length_range]
theorem fill_at {x : Int} {j : Nat} (h : j < 256) : (fill x)[j]?.getD 0 = x := by
  unfold fill
  rw [List.getElem?_map, List.getElem?_range h]; rfl
theorem fill_of {x : Int} {ws : List Int} (hl : ws.length = 256) (h : ∀ j, j < 256 → ws[j]?.getD 0 = x) : ws = fill x := by
  apply List.ext_getElem
  · rw [hl, fill_len]
  · intro j h1 h2
    have := h j (by omega)
    rw [List.getElem?_eq_getElem h1] at this
    have h3 := fill_at (x := x) (show j < 256 by omega)
    rw [List.getElem?_eq_getElem h2] at h3
    exact this.trans h3.symm

set_option maxHeartbeats 800000 in
theorem filled_any (x : Int) (w : World) : Calls Try.prog 14 #[.int .i64 x] w (RetOwn w 3 .i64 (fill x)) := by
  have hb0 := Below.refl w.heap.size w
  go_enter Try.func14, Try.ntmps14
  go_wp2_with (first | (at_make; refine wpList_makeI _ rfl _ _ _ rfl 3 .i64 8 Try.underlying22 Try.info_int (by omega) _ _ 256 hb0 (Nat.le_refl _) (by omega) .i64 .i64 rfl rfl ?_; intro w5 hown5 b5 _ _))
  clear hb0
  go_loopw [4] (fun i wr => ∃ k : Nat, ∃ ws : List Int, k ≤ 256 ∧ i = .int .i64 k ∧ Own w.heap.size 3 .i64 wr (.slice (some ⟨w.heap.size, 0, none⟩) 256 256) ws ∧ Hid (ws.length = 256) ∧ Hid (∀ j, j < k → ws[j]?.getD 0 = x) ∧ Below w.heap.size w wr) (fun i _ => 256 - (intOf i).toNat)
  case atStart => exact ⟨0, _, by omega, rfl, hown5, hid List.length_replicate, hid (fun j hj => absurd hj (by omega)), b5⟩
  case round =>
    obtain ⟨k, ws, hk, rfl, hown, hl, hall, hbel⟩ := hrel
    by_cases hlt : k < 256
    · have hlt' : (k : Int) < 256 := by omega
      have cw := hown.cellAt hl.out k hlt
      have fw := hown.frozenAt hl.out k
      have hbw := hown.blockGe
      obtain ⟨hs1, _⟩ := hown.set_ hl.out k x
      have hnew : Hid ((ws.set k x).length = 256) := hid (by rw [List.length_set]; exact hl.out)
      have hnall : Hid (∀ j, j < k + 1 → (ws.set k x)[j]?.getD 0 = x) := hid (fun j hj => by
        rcases Nat.lt_or_ge j k with h | h
        · rw [List.getElem?_set_ne (by omega)]; exact hall.out j h
        · obtain rfl : j = k := by omega
          rw [List.getElem?_set_self (by rw [hl.out]; exact hlt)]; rfl)
      have hbel' := hbel.setCell (p := ⟨w.heap.size, k, none⟩) (Nat.le_refl _) (.int .i64 x)
      clear hown hbel
      go_wp2
      go_roundw
      case rel => exact ⟨k + 1, _, by omega, by go_num, hs1, hnew, hnall, hbel'⟩
      case measure => simp [intOf]; omega
    · obtain rfl : k = 256 := by omega
      have HZ := hid (fill_of hl.out hall.out)
      go_wp2
      go_ret
      rw [← HZ.out]
      exact ⟨_, rfl, hown, hbel⟩

def allB (xs : List Int) (x : Int) : Bool := decide (xs.length = 256 ∧ ∀ k, k < xs.length → xs[k]?.getD 0 = x)
theorem allB_no {xs : List Int} {x : Int} (k : Nat) (hk : k < xs.length) (h : xs[k]?.getD 0 ≠ x) : allB xs x = false := by
  unfold allB; rw [decide_eq_false]; exact fun h2 => h (h2.2 k hk)
theorem allB_all {xs : List Int} {x : Int} (h : ∀ k, k < xs.length → xs[k]?.getD 0 = x) : allB xs x = decide (xs.length = 256) := by
  unfold allB
  by_cases h2 : xs.length = 256
  · rw [decide_eq_true h2, decide_eq_true ⟨h2, h⟩]
  · rw [decide_eq_false h2, decide_eq_false (fun h3 => h2 h3.1)]
theorem allB_yes {xs : List Int} {x : Int} (hl : xs.length = 256) (h : ∀ k, k < 256 → xs[k]?.getD 0 = x) : allB xs x = true := by
  unfold allB; rw [decide_eq_true ⟨hl, by rw [hl]; exact h⟩]

set_option maxHeartbeats 800000 in
theorem all_any (A : Option Addr) (n c : Nat) (xs : List Int) (x : Int) (w : World) (hx : Rd .i64 w A n xs) (hn : n ≤ 140737488355328) :
    Calls Try.prog 15 #[.slice A n c, .int .i64 x] w fun e w' => e = .returned (.bool (allB xs x)) ∧ w = w' := by
  have Hl := hid hx.1
  have Hx := hid hx
  clear hx
  go_enter Try.func15, Try.ntmps15
  go_wp2
  go_loop [5] (fun i => ∃ k : Nat, k ≤ n ∧ i = .int .i64 k ∧ Hid (∀ j, j < k → xs[j]?.getD 0 = x)) (fun i => n - (intOf i).toNat)
  case atStart => exact ⟨0, Nat.zero_le _, rfl, hid (fun j hj => absurd hj (by omega))⟩
  case round =>
    obtain ⟨k, hk, rfl, hall⟩ := hrel
    by_cases hlt : k < n
    · obtain ⟨b, off, rfl, hbl⟩ := Hx.out.addr (by omega)
      have ck := Hx.out.cellAt k hlt
      by_cases h1 : xs[k]?.getD 0 = x
      · have t1 : (xs[k]?.getD 0 != x) = false := by simp [h1]
        have H1 := hid h1
        clear h1
        go_wp2
        go_round
        case rel => exact ⟨k + 1, by omega, by go_num, hid (fun j hj => by
          rcases Nat.lt_or_ge j k with h | h
          · exact hall.out j h
          · obtain rfl : j = k := by omega
            exact H1.out)⟩
        case measure => simp [intOf]; omega
      · have t1 : (xs[k]?.getD 0 != x) = true := by simp [h1]
        have H1 := hid (allB_no k (by rw [Hl.out]; exact hlt) h1)
        clear h1
        go_wp2
        go_ret
        exact ⟨retB H1.out.symm, rfl⟩
    · obtain rfl : k = n := by omega
      have H1 := hid (allB_all (xs := xs) (x := x) (by rw [Hl.out]; exact hall.out))
      rw [Hl.out] at H1
      by_cases h2 : k = 256
      · subst h2
        go_wp2
        go_ret
        exact ⟨retB H1.out.symm, rfl⟩
      · have t1 : ((k : Int) == 256) = false := by simp; omega
        have H2 := hid (decide_eq_false h2)
        clear h2
        go_wp2
        go_ret
        exact ⟨retB (by rw [H1.out, H2.out]), rfl⟩

theorem loseE_zero {xs ys : List Int} {at_ many : Int} (h : loseE xs ys at_ many = 0) : 1 ≤ at_ ∧ at_ ≤ many ∧ many ≤ 65536 ∧ xs.length = 256 ∧ (ys.length = 256 ∨ ys.length = 0) ∧ anyOdd xs = false ∧ anyOdd ys = false := by
  unfold loseE at h
  split at h
  · omega
  · split at h
    · omega
    · split at h
      · omega
      · rename_i h1 h2 h3
        have h4 := not_or.1 h3
        exact ⟨by omega, by omega, by omega, by omega, by omega, by simpa using h4.1, by simpa using h4.2⟩

/-- lose.Lines of two filled rows, where all is well: any line. -/
theorem loseAt_fill {a b at_ many : Int} {j : Nat} (hj : j < 256) (h : many ≤ 2) : loseAt (fill a) (fill b) at_ many j = (a * (many + 1 - at_) + b * at_) / (many + 1) := by
  unfold loseAt
  rw [if_pos ⟨h, by rw [fill_len]; omega⟩, fill_at hj, fill_at hj]
theorem loseAt_fillN {a at_ many : Int} {ys : List Int} {j : Nat} (hj : j < 256) (h : ¬ (many ≤ 2 ∧ 0 < ys.length)) : loseAt (fill a) ys at_ many j = if 8 < at_ then 0 else a / 2 ^ at_.toNat := by
  unfold loseAt
  rw [if_neg h, fill_at hj]
theorem anyOdd_fill {a : Int} (h : oddB a = false) : anyOdd (fill a) = false := by
  unfold anyOdd; rw [List.any_eq_false]
  intro x hx
  unfold fill at hx
  rw [List.mem_map] at hx
  obtain ⟨_, _, rfl⟩ := hx
  rw [h]; simp
theorem loseE_fill {a b at_ many : Int} (h1 : ¬ (at_ < 1 ∨ many < at_ ∨ 65536 < many)) (ha : oddB a = false) (hb : oddB b = false) : loseE (fill a) (fill b) at_ many = 0 :=
  loseE_ok h1 (by rw [fill_len, fill_len]; omega) (anyOdd_fill ha) (anyOdd_fill hb)
theorem loseL_at {xs ys : List Int} {at_ many : Int} {j : Nat} (h : j < 256) : (loseL xs ys at_ many)[j]?.getD 0 = loseAt xs ys at_ many j := by
  unfold loseL
  rw [List.getElem?_map, List.getElem?_range h]; rfl

/-- What lose.Lines answers of two filled rows. -/
theorem fill_all {a b at_ many x : Int} (h1 : ¬ (at_ < 1 ∨ many < at_ ∨ 65536 < many)) (ha : oddB a = false) (hb : oddB b = false) (hx : (if many ≤ 2 then (a * (many + 1 - at_) + b * at_) / (many + 1) else if 8 < at_ then 0 else a / 2 ^ at_.toNat) = x) :
    loseE (fill a) (fill b) at_ many = 0 ∧ (loseR (fill a) (fill b) at_ many).length = 256 ∧ allB (loseR (fill a) (fill b) at_ many) x = true := by
  have e := loseE_fill (at_ := at_) (many := many) h1 ha hb
  refine ⟨e, ?_, ?_⟩
  · rw [loseR_ok e]; exact loseL_len _ _ _ _
  · rw [loseR_ok e]
    refine allB_yes (loseL_len _ _ _ _) fun k hk => ?_
    rw [loseL_at hk, ← hx]
    split
    · rw [loseAt_fill hk (by assumption)]
    · rw [loseAt_fillN hk (fun h => absurd h.1 (by assumption))]

set_option maxHeartbeats 800000 in
theorem alive_any (w : World) : Calls Try.prog 12 #[] w fun e w' => e = .returned (.bool true) ∧ Below w.heap.size w w' := by
  have r1 := hid (filled_any 9 w)
  obtain ⟨E, L, AL⟩ := fill_all (a := 9) (b := 3) (at_ := 1) (many := 1) (x := 6) (by omega) rfl rfl (by decide)
  have E := hid E
  have L := hid L
  have AL := hid AL
  go_enter Try.func12, Try.ntmps12
  go_wp2_with fail
  refine r1.out.mono ?_
  intro e w1 hr
  obtain ⟨A1, c1, rfl, hown, hrd, _, b1⟩ := hr.opens (n := 256) (fill_len _)
  clear hr r1 hown
  go_wp2_with fail
  refine (filled_any 3 w1).mono ?_
  intro e w2 hr
  obtain ⟨A2, c2, rfl, hown, hrd2, _, hb2⟩ := hr.opens (n := 256) (fill_len _)
  have hrd := hrd.below hb2 (Nat.le_refl _)
  have b2 := b1.trans (hb2.mono b1.size)
  clear hr hown hb2 b1
  go_wp2_with fail
  refine (lines_any A1 A2 256 c1 256 c2 _ _ 1 1 w2 hrd hrd2).mono ?_
  rw [E.out]
  intro e w3 hr
  obtain ⟨A3, c3, rfl, hown, hrd3, _, hb2⟩ := hr.opens L.out
  have b3 := b2.trans (hb2.mono b2.size)
  clear hr hown hb2 b2 hrd hrd2
  go_wp2_with fail
  refine (all_any A3 256 c3 _ 6 w3 hrd3 (by omega)).mono ?_
  rintro e w' ⟨rfl, rfl⟩
  rw [AL.out]
  go_wp2
  go_ret
  exact ⟨rfl, b3⟩
end Go.Proofs.Ytdcidpgabhbhbaa
