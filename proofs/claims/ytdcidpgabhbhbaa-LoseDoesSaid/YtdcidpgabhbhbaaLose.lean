/-
  The walks of package lose.
-/
import Derived.Test.YtdcidpgabhbhbaaBase
import Derived.Test.YtdcidpgabhbhbaaLoseP
import Derived.BigQuiet
import Derived.Deep.QuietTactic
import Derived.RangeFuncBox
namespace Go.Proofs.Ytdcidpgabhbhbaa
set_option linter.unusedVariables false
open Go.RowKit

theorem Try.info_int : (Try.prog.info? 3).map (fun i => (i.zero, i.size, i.bytes)) = some (some (.int .i64 0), 1, 8) := by kernel_rfl

theorem oddB_lo {n : Int} (h : n < -268435455) : oddB n = true := by unfold oddB; rw [decide_eq_true]; exact .inl h
theorem oddB_hi {n : Int} (h : 268435455 < n) : oddB n = true := by unfold oddB; rw [decide_eq_true]; exact .inr h
theorem oddB_no {n : Int} (h : ¬ n < -268435455) (h2 : ¬ 268435455 < n) : oddB n = false := by unfold oddB; rw [decide_eq_false]; omega

set_option maxHeartbeats 400000 in
theorem lodd_any (n : Int) (w : World) : Calls Try.prog 25 #[.int .i64 n] w fun e w' => e = .returned (.bool (oddB n)) ∧ w = w' := by
  by_cases h0 : n < -268435455
  · rw [oddB_lo h0]
    go_enter Try.func25, Try.ntmps25
    go_wp2
    go_ret
    exact ⟨rfl, rfl⟩
  · by_cases h1 : 268435455 < n
    · rw [oddB_hi h1]
      go_enter Try.func25, Try.ntmps25
      go_wp2
      go_ret
      exact ⟨rfl, rfl⟩
    · rw [oddB_no h0 h1]
      go_enter Try.func25, Try.ntmps25
      go_wp2
      go_ret
      exact ⟨rfl, rfl⟩

/-- slices.IndexFunc answers a number that is not negative just where one is odd. -/
def RetIdx (w : World) (b : Bool) (e : Ending) (w' : World) : Prop := ∃ i : Int, e = .returned (.int .i64 i) ∧ (b = true → 0 ≤ i) ∧ (b = false → i = -1) ∧ w = w'

set_option maxHeartbeats 400000 in
theorem lidx_any (A : Option Addr) (n c : Nat) (xs : List Int) (w : World) (hx : Rd .i64 w A n xs) (hn : n ≤ 140737488355328) :
    Calls Try.prog 40 #[.slice A n c, .func (.func 25) #[] #[]] w (RetIdx w (anyOdd xs)) := by
  have Hl := hid hx.1
  have Hx := hid hx
  clear hx
  go_enter Try.func40, Try.ntmps40
  go_wp2
  go_loop [8] (fun i => ∃ k : Nat, k ≤ n ∧ i = .int .i64 k ∧ Hid (∀ j, j < k → oddB (xs[j]?.getD 0) = false)) (fun i => n - (intOf i).toNat)
  case atStart => exact ⟨0, Nat.zero_le _, rfl, hid (fun j hj => absurd hj (by omega))⟩
  case round =>
    obtain ⟨k, hk, rfl, hall⟩ := hrel
    by_cases hlt : k < n
    · obtain ⟨b, off, rfl, hbl⟩ := Hx.out.addr (by omega)
      have ck := Hx.out.cellAt k hlt
      have r1 := hid (lodd_any (xs[k]?.getD 0) w)
      by_cases h1 : oddB (xs[k]?.getD 0) = true
      · rw [h1] at r1
        have HY := hid (anyOdd_yes k (by rw [Hl.out]; exact hlt) h1)
        clear h1
        go_wp2_with fail
        refine r1.out.mono ?_
        rintro e w' ⟨rfl, rfl⟩
        go_wp2
        go_ret
        exact ⟨_, rfl, (fun _ => by omega), (fun h => by rw [HY.out] at h; cases h), rfl⟩
      · have h2 : oddB (xs[k]?.getD 0) = false := by simpa using h1
        rw [h2] at r1
        have H2 := hid h2
        clear h1 h2
        go_wp2_with fail
        refine r1.out.mono ?_
        rintro e w' ⟨rfl, rfl⟩
        go_wp2
        go_round
        case rel => exact ⟨k + 1, by omega, by go_num, hid (fun j hj => by
          rcases Nat.lt_or_ge j k with h | h
          · exact hall.out j h
          · obtain rfl : j = k := by omega
            exact H2.out)⟩
        case measure => simp [intOf]; omega
    · obtain rfl : k = n := by omega
      have HN := hid (anyOdd_of (xs := xs) (fun j hj => hall.out j (by rw [Hl.out] at hj; exact hj)))
      go_wp2
      go_ret
      exact ⟨_, rfl, (fun h => by rw [HN.out] at h; cases h), fun _ => rfl, rfl⟩

set_option maxHeartbeats 400000 in
theorem lcont_any (A : Option Addr) (n c : Nat) (xs : List Int) (w : World) (hx : Rd .i64 w A n xs) (hn : n ≤ 140737488355328) :
    Calls Try.prog 26 #[.slice A n c, .func (.func 25) #[] #[]] w fun e w' => e = .returned (.bool (anyOdd xs)) ∧ w = w' := by
  have r1 := hid (lidx_any A n c xs w hx hn)
  clear hx
  generalize anyOdd xs = b at *
  go_enter Try.func26, Try.ntmps26
  go_wp2_with fail
  refine r1.out.mono ?_
  rintro e w' ⟨i, rfl, h1, h2, rfl⟩
  cases b
  · obtain rfl := h2 rfl
    clear h1 h2
    go_wp2
    go_ret
    exact ⟨rfl, rfl⟩
  · have h3 := h1 rfl
    clear h1 h2
    go_wp2
    go_ret
    exact ⟨rfl, rfl⟩

/-- The closures' answer: a number; the world has at most drawn. -/
def RetNum (w : World) (n : Int) (e : Ending) (w' : World) : Prop := e = .returned (.int .i64 n) ∧ ∃ q, w' = w.drewN q

set_option maxHeartbeats 400000 in
theorem l3_any (n : Int) (w : World) : Calls Try.prog 28 #[.int .i64 n] w (RetNum w 0) := by
  go_enter Try.func28, Try.ntmps28
  go_wp2
  go_ret
  exact ⟨rfl, 0, rfl⟩

set_option maxHeartbeats 400000 in
theorem l4_any (k : Nat) (A : Option Addr) (n c b1 b2 : Nat) (xs : List Int) (at_ : Int) (w : World) (hx : Rd .i64 w A n xs) (hk : k < n) (hn : n ≤ 256) (h1 : w.cell? ⟨b1, 0, none⟩ = some (.slice A n c)) (h2 : w.cell? ⟨b2, 0, none⟩ = some (.int .i64 at_)) (ha : 0 ≤ at_) (ha2 : at_ ≤ 8) :
    Calls Try.prog 29 #[.int .i64 k, .pointer (some ⟨b1, 0, none⟩), .pointer (some ⟨b2, 0, none⟩)] w (RetNum w ((xs[k]?.getD 0) / 2 ^ at_.toNat)) := by
  obtain ⟨b, off, rfl, hbl⟩ := hx.addr (by omega)
  have ck := hx.cellAt k hk
  have hk' : (k : Int) < (n : Int) := by omega
  have hk0 : (0 : Int) ≤ (k : Int) := by omega
  clear hx
  go_enter Try.func29, Try.ntmps29
  go_wp2
  go_quiet (fail)
  go_wp2
  go_ret
  exact ⟨rfl, _, rfl⟩

set_option maxHeartbeats 800000 in
theorem l2_any (k : Nat) (A A' : Option Addr) (n c n' c' b1 b2 b3 b4 : Nat) (xs ys : List Int) (at_ many : Int) (w : World) (hx : Rd .i64 w A n xs) (hk : k < n) (hn : n ≤ 256) (hy : Rd .i64 w A' n' ys) (hk2 : k < n') (hn2 : n' ≤ 256)
    (h1 : w.cell? ⟨b1, 0, none⟩ = some (.slice A n c)) (h2 : w.cell? ⟨b2, 0, none⟩ = some (.int .i64 many)) (h3 : w.cell? ⟨b3, 0, none⟩ = some (.int .i64 at_)) (h4 : w.cell? ⟨b4, 0, none⟩ = some (.slice A' n' c')) (ha : 1 ≤ at_) (ha2 : at_ ≤ many) (hm : many ≤ 2)
    (hbx : -268435455 ≤ xs[k]?.getD 0 ∧ xs[k]?.getD 0 ≤ 268435455) (hby : -268435455 ≤ ys[k]?.getD 0 ∧ ys[k]?.getD 0 ≤ 268435455) :
    Calls Try.prog 27 #[.int .i64 k, .pointer (some ⟨b1, 0, none⟩), .pointer (some ⟨b2, 0, none⟩), .pointer (some ⟨b3, 0, none⟩), .pointer (some ⟨b4, 0, none⟩)] w
      (RetNum w (((xs[k]?.getD 0) * (many + 1 - at_) + (ys[k]?.getD 0) * at_) / (many + 1))) := by
  obtain ⟨b, off, rfl, hbl⟩ := hx.addr (by omega)
  obtain ⟨b', off', rfl, hbl'⟩ := hy.addr (by omega)
  have ck := hx.cellAt k hk
  have ck' := hy.cellAt k hk2
  have hk' : (k : Int) < (n : Int) := by omega
  have hk2' : (k : Int) < (n' : Int) := by omega
  have hk0 : (0 : Int) ≤ (k : Int) := by omega
  obtain ⟨hx0, hx1⟩ := hbx
  obtain ⟨hy0, hy1⟩ := hby
  clear hx hy
  generalize xs[k]?.getD 0 = x at *
  generalize ys[k]?.getD 0 = y at *
  have hprod : -1073741824 ≤ x * (many + 1 - at_) ∧ x * (many + 1 - at_) ≤ 1073741824 := by
    have hc : (many = 1 ∧ at_ = 1) ∨ (many = 2 ∧ at_ = 1) ∨ (many = 2 ∧ at_ = 2) := by omega
    rcases hc with ⟨rfl, rfl⟩ | ⟨rfl, rfl⟩ | ⟨rfl, rfl⟩ <;> omega
  have hprod2 : -1073741824 ≤ y * at_ ∧ y * at_ ≤ 1073741824 := by
    have hc : at_ = 1 ∨ at_ = 2 := by omega
    rcases hc with rfl | rfl <;> omega
  obtain ⟨hp0, hp1⟩ := hprod
  obtain ⟨hp2, hp3⟩ := hprod2
  have hqb : -2147483648 ≤ (x * (many + 1 - at_) + y * at_).tdiv (many + 1) ∧ (x * (many + 1 - at_) + y * at_).tdiv (many + 1) ≤ 2147483648 := by
    have hSb : -2147483648 ≤ x * (many + 1 - at_) + y * at_ ∧ x * (many + 1 - at_) + y * at_ ≤ 2147483648 := by omega
    generalize x * (many + 1 - at_) + y * at_ = S at *
    have e1 := Int.mul_tdiv_add_tmod S (many + 1)
    have e2 := Int.tmod_lt_of_pos S (show 0 < many + 1 by omega)
    have e3 : -(many + 1) < S.tmod (many + 1) := Int.lt_tmod_of_pos S (by omega)
    rcases (show many = 1 ∨ many = 2 by omega) with h | h
    · subst h; omega
    · subst h; omega
  have FL := hid (floor_of (x * (many + 1 - at_) + y * at_) (many + 1) (by omega))
  go_enter Try.func27, Try.ntmps27
  go_wp2
  go_quiet (fail)
  go_wp2
  · have hnn : (x * (many + 1 - at_) + y * at_).tmod (many + 1) < 0 := by omega
    go_ret
    refine ⟨retI ?_, _, rfl⟩
    rw [FL.out, if_pos hnn]
  · have hnn : ¬ (x * (many + 1 - at_) + y * at_).tmod (many + 1) < 0 := by omega
    go_ret
    exact ⟨retI (by rw [FL.out, if_neg hnn]), _, rfl⟩

theorem below4 (w : World) (a b c d : Obj) : Below w.heap.size w ((((w.alloc a).alloc b).alloc c).alloc d) :=
  ((((Below.refl _ _).alloc (Nat.le_refl _) a).alloc (by simp) b).alloc (by simp; omega) c).alloc (by simp; omega) d

/-- The call returned one row of its own and an error's number. -/
def RetOwnE (W : World) (ty : TypeId) (k : IntKind) (xs : List Int) (err : Int) (e : Ending) (w' : World) : Prop :=
  ∃ v, e = .returned (.tuple #[v, .int .i64 err]) ∧ Own W.heap.size ty k w' v xs ∧ Below W.heap.size W w'
theorem RetOwnE.opens {W : World} {ty : TypeId} {k : IntKind} {xs : List Int} {err : Int} {e : Ending} {w' : World} {n : Nat} (h : RetOwnE W ty k xs err e w') (hn : xs.length = n) :
    ∃ A c, e = .returned (.tuple #[.slice A n c, .int .i64 err]) ∧ Own W.heap.size ty k w' (.slice A n c) xs ∧ Rd k w' A n xs ∧ (A = none → c = 0) ∧ Below W.heap.size W w' := by
  obtain ⟨v, he, hown, hb⟩ := h
  obtain ⟨A, c, rfl, hrd, _, hnil⟩ := hown.forms hn
  exact ⟨A, c, he, hown, hrd, hnil, hb⟩

set_option maxHeartbeats 1000000 in
theorem lines_bad1 (A A' : Option Addr) (n c n' c' : Nat) (xs ys : List Int) (at_ many : Int) (w : World) (h : at_ < 1 ∨ many < at_ ∨ 65536 < many) :
    Calls Try.prog 13 #[.slice A n c, .slice A' n' c', .int .i64 at_, .int .i64 many] w (RetOwnE w 3 .i64 (loseR xs ys at_ many) (loseE xs ys at_ many)) := by
  have e := loseE_arg (xs := xs) (ys := ys) h
  have E := hid e
  have R := hid (loseR_no (show loseE xs ys at_ many ≠ 0 by omega))
  clear e
  by_cases h1 : at_ < 1
  · clear h
    go_enter Try.func13, Try.ntmps13
    go_wp2
    go_ret2
    rw [R.out, E.out]
    exact ⟨_, rfl, Own.none_, below4 _ _ _ _ _⟩
  by_cases h2 : many < at_
  · clear h
    go_enter Try.func13, Try.ntmps13
    go_wp2
    go_ret2
    rw [R.out, E.out]
    exact ⟨_, rfl, Own.none_, below4 _ _ _ _ _⟩
  have h3 : 65536 < many := by omega
  clear h
  go_enter Try.func13, Try.ntmps13
  go_wp2
  go_ret2
  rw [R.out, E.out]
  exact ⟨_, rfl, Own.none_, below4 _ _ _ _ _⟩

set_option maxHeartbeats 1000000 in
theorem lines_bad2 (A A' : Option Addr) (n c n' c' : Nat) (xs ys : List Int) (at_ many : Int) (w : World) (hl : xs.length = n) (hl' : ys.length = n') (h1 : 1 ≤ at_) (h2 : at_ ≤ many) (h3 : many ≤ 65536) (h : n ≠ 256 ∨ (n' ≠ 256 ∧ n' ≠ 0)) :
    Calls Try.prog 13 #[.slice A n c, .slice A' n' c', .int .i64 at_, .int .i64 many] w (RetOwnE w 3 .i64 (loseR xs ys at_ many) (loseE xs ys at_ many)) := by
  have e := loseE_many (xs := xs) (ys := ys) (at_ := at_) (many := many) (by omega) (by omega)
  have E := hid e
  have R := hid (loseR_no (show loseE xs ys at_ many ≠ 0 by omega))
  clear e hl hl'
  by_cases h4 : n = 256
  · have h5 : ((n' : Int) != 256) = true := by simp; omega
    have h6 : ((n' : Int) != 0) = true := by simp; omega
    have h7 : ((n : Int) != 256) = false := by simp; omega
    clear h h4
    go_enter Try.func13, Try.ntmps13
    go_wp2
    go_ret2
    rw [R.out, E.out]
    exact ⟨_, rfl, Own.none_, below4 _ _ _ _ _⟩
  · have h7 : ((n : Int) != 256) = true := by simp; omega
    clear h h4
    go_enter Try.func13, Try.ntmps13
    go_wp2
    go_ret2
    rw [R.out, E.out]
    exact ⟨_, rfl, Own.none_, below4 _ _ _ _ _⟩

set_option maxHeartbeats 1000000 in
theorem lines_bad3 (A A' : Option Addr) (c n' c' : Nat) (xs ys : List Int) (at_ many : Int) (w : World) (hx : Rd .i64 w A 256 xs) (hy : Rd .i64 w A' n' ys) (h1 : 1 ≤ at_) (h2 : at_ ≤ many) (h3 : many ≤ 65536) (h : n' = 256 ∨ n' = 0) (ho : anyOdd xs = true ∨ anyOdd ys = true) :
    Calls Try.prog 13 #[.slice A 256 c, .slice A' n' c', .int .i64 at_, .int .i64 many] w (RetOwnE w 3 .i64 (loseR xs ys at_ many) (loseE xs ys at_ many)) := by
  have hlx := hx.1
  have hly := hy.1
  have e := loseE_odd (xs := xs) (ys := ys) (at_ := at_) (many := many) (by omega) (by omega) ho
  have E := hid e
  have R := hid (loseR_no (show loseE xs ys at_ many ≠ 0 by omega))
  have HO := hid ho
  have hn' : n' ≤ 256 := by omega
  have hb4 := below4 w (.cells #[.slice A 256 c] 22) (.cells #[.slice A' n' c'] 22) (.cells #[.int .i64 at_] 3) (.cells #[.int .i64 many] 3)
  have r1 := hid (lcont_any A 256 c xs _ (hx.below hb4 (Nat.le_refl _)) (by omega))
  have r2 := hid (lcont_any A' n' c' ys _ (hy.below hb4 (Nat.le_refl _)) (by omega))
  clear e hlx hly hx hy ho
  have h5 : ((n' : Int) != 256 && (n' : Int) != 0) = false := by rcases h with rfl | rfl <;> rfl
  rcases h with rfl | rfl
  all_goals
    go_enter Try.func13, Try.ntmps13
    go_wp2_with fail
    refine r1.out.mono ?_
    rintro e w' ⟨rfl, rfl⟩
    by_cases hox : anyOdd xs = true
    · rw [hox]
      go_wp2
      go_ret2
      rw [R.out, E.out]
      exact ⟨_, rfl, Own.none_, hb4⟩
    · have hoy : anyOdd ys = true := HO.out.resolve_left hox
      have hox' : anyOdd xs = false := by simpa using hox
      rw [hox']
      rw [hoy] at r2
      clear hox hoy hox'
      go_wp2_with fail
      refine r2.out.mono ?_
      rintro e w' ⟨rfl, rfl⟩
      go_wp2
      go_ret2
      rw [R.out, E.out]
      exact ⟨_, rfl, Own.none_, hb4⟩
-- GENERATED (genlose.py)
theorem boxed_low {B b : Nat} {t : TypeId} {v : Value} {w w' : World} (h : Boxed w b t v) (hb : Below B w w') (hB : b < B) : Boxed w' b t v := (hb.block b hB).trans h

set_option maxHeartbeats 1600000 in
theorem lines_ok4 (A A' : Option Addr) (c n' c' : Nat) (xs ys : List Int) (at_ many : Int) (w : World) (hx : Rd .i64 w A 256 xs) (hy : Rd .i64 w A' n' ys) (h1 : 1 ≤ at_) (h2 : at_ ≤ many) (h3 : many ≤ 65536) (h : n' = 256 ∨ n' = 0) (hox : anyOdd xs = false) (hoy : anyOdd ys = false) (hm : ¬ (many ≤ 2 ∧ 0 < n')) (ha : at_ ≤ 8) :
    Calls Try.prog 13 #[.slice A 256 c, .slice A' n' c', .int .i64 at_, .int .i64 many] w (RetOwnE w 3 .i64 (loseR xs ys at_ many) (loseE xs ys at_ many)) := by
  have hlx := hx.1
  have hly := hy.1
  have e := loseE_ok (xs := xs) (ys := ys) (at_ := at_) (many := many) (by omega) (by omega) hox hoy
  have E := hid e
  have R := hid (loseR_ok e)
  have hn' : n' ≤ 256 := by omega
  have hb4 := below4 w (.cells #[.slice A 256 c] 22) (.cells #[.slice A' n' c'] 22) (.cells #[.int .i64 at_] 3) (.cells #[.int .i64 many] 3)
  have r1 := hid (lcont_any A 256 c xs _ (hx.below hb4 (Nat.le_refl _)) (by omega))
  have r2 := hid (lcont_any A' n' c' ys _ (hy.below hb4 (Nat.le_refl _)) (by omega))
  rw [hox] at r1
  rw [hoy] at r2
  have HAT := hid (fun n : Nat => show loseAt xs ys at_ many n = (xs[n]?.getD 0) / 2 ^ at_.toNat by unfold loseAt; rw [if_neg (by rw [hly]; exact hm), if_neg (by omega)])
  have OX := hid (anyOdd_at hox)
  have OY := hid (anyOdd_at hoy)
  have Hx := hid hx
  have Hy := hid hy
  have bA : Boxed ((((w.alloc (.cells #[.slice A 256 c] 22)).alloc (.cells #[.slice A' n' c'] 22)).alloc (.cells #[.int .i64 at_] 3)).alloc (.cells #[.int .i64 many] 3)) w.heap.size 22 (.slice A 256 c) := (((Boxed.new w _ _).alloc _).alloc _).alloc _
  have bB : Boxed ((((w.alloc (.cells #[.slice A 256 c] 22)).alloc (.cells #[.slice A' n' c'] 22)).alloc (.cells #[.int .i64 at_] 3)).alloc (.cells #[.int .i64 many] 3)) (w.heap.size + 1) 22 (.slice A' n' c') := by
    have := ((Boxed.new (w.alloc (.cells #[.slice A 256 c] 22)) 22 (.slice A' n' c')).alloc (.cells #[.int .i64 at_] 3)).alloc (.cells #[.int .i64 many] 3)
    simpa using this
  have bC : Boxed ((((w.alloc (.cells #[.slice A 256 c] 22)).alloc (.cells #[.slice A' n' c'] 22)).alloc (.cells #[.int .i64 at_] 3)).alloc (.cells #[.int .i64 many] 3)) (w.heap.size + 1 + 1) 3 (.int .i64 at_) := by
    have := (Boxed.new ((w.alloc (.cells #[.slice A 256 c] 22)).alloc (.cells #[.slice A' n' c'] 22)) 3 (.int .i64 at_)).alloc (.cells #[.int .i64 many] 3)
    simpa using this
  have bD : Boxed ((((w.alloc (.cells #[.slice A 256 c] 22)).alloc (.cells #[.slice A' n' c'] 22)).alloc (.cells #[.int .i64 at_] 3)).alloc (.cells #[.int .i64 many] 3)) (w.heap.size + 1 + 1 + 1) 3 (.int .i64 many) := by
    have := Boxed.new (((w.alloc (.cells #[.slice A 256 c] 22)).alloc (.cells #[.slice A' n' c'] 22)).alloc (.cells #[.int .i64 at_] 3)) 3 (.int .i64 many)
    simpa using this
  have BA := hid bA
  have BB := hid bB
  have BC := hid bC
  have BD := hid bD
  have hs4 := hb4.size
  have hb4s := Below.refl ((((w.alloc (.cells #[.slice A 256 c] 22)).alloc (.cells #[.slice A' n' c'] 22)).alloc (.cells #[.int .i64 at_] 3)).alloc (.cells #[.int .i64 many] 3)).heap.size ((((w.alloc (.cells #[.slice A 256 c] 22)).alloc (.cells #[.slice A' n' c'] 22)).alloc (.cells #[.int .i64 at_] 3)).alloc (.cells #[.int .i64 many] 3))
  have hsz4 : ((((w.alloc (.cells #[.slice A 256 c] 22)).alloc (.cells #[.slice A' n' c'] 22)).alloc (.cells #[.int .i64 at_] 3)).alloc (.cells #[.int .i64 many] 3)).heap.size = w.heap.size + 1 + 1 + 1 + 1 := by simp
  have HS4 := hid hsz4
  clear e hlx hly hx hy hox hoy bA bB bC bD hsz4
  have hcase : (many ≤ 2 ∧ n' = 0) ∨ (¬ many ≤ 2 ∧ n' = 256) ∨ (¬ many ≤ 2 ∧ n' = 0) := by omega
  clear h
  rcases hcase with ⟨hm2, rfl⟩ | ⟨hm2, rfl⟩ | ⟨hm2, rfl⟩
  all_goals
    go_enter Try.func13, Try.ntmps13
    go_wp2_with fail
    refine r1.out.mono ?_
    rintro e w' ⟨rfl, rfl⟩
    go_wp2_with fail
    refine r2.out.mono ?_
    rintro e w' ⟨rfl, rfl⟩
    clear r1 r2
    go_wp2_with (first | (at_make; refine wpList_makeI _ rfl _ _ _ rfl 3 .i64 8 Try.underlying22 Try.info_int (by omega) _ _ 256 hb4s (Nat.le_refl _) (by omega) .i64 .i64 rfl rfl ?_; intro w5 hown5 b5 _ _))
    have BA := hid (BA.out.kept (grownBy_of_below (row := none) b5) (by simp))
    have BB := hid (BB.out.kept (grownBy_of_below (row := none) b5) (by simp))
    have BC := hid (BC.out.kept (grownBy_of_below (row := none) b5) (by simp))
    have BD := hid (BD.out.kept (grownBy_of_below (row := none) b5) (by simp))
    have bw5 := hb4.trans (b5.mono hs4)
    rw [HS4.out] at hown5 b5
    clear hb4 hb4s hs4 HS4
    go_loopw [65] (fun i wr => ∃ k : Nat, ∃ zs : List Int, k ≤ 256 ∧ i = .int .i64 k ∧ Own (w.heap.size + 1 + 1 + 1 + 1) 3 .i64 wr (.slice (some ⟨w.heap.size + 1 + 1 + 1 + 1, 0, none⟩) 256 256) zs ∧ Hid (zs.length = 256) ∧ Hid (∀ j, j < k → zs[j]?.getD 0 = loseAt xs ys at_ many j) ∧ Below (w.heap.size + 1 + 1 + 1 + 1) w5 wr) (fun i _ => 256 - (intOf i).toNat)
    case atStart => exact ⟨0, _, by omega, rfl, hown5, hid List.length_replicate, hid (fun j hj => absurd hj (by omega)), Below.refl _ _⟩
    case round =>
      obtain ⟨k, zs, hk, rfl, hown, hzl, hall, hbel⟩ := hrel
      by_cases hlt : k < 256
      · have hlt' : (k : Int) < 256 := by omega
        have bwr := bw5.trans (hbel.mono (by omega))
        have c1 := (boxed_low BA.out hbel (by omega)).cell
        have c2 := (boxed_low BB.out hbel (by omega)).cell
        have c3 := (boxed_low BC.out hbel (by omega)).cell
        have c4 := (boxed_low BD.out hbel (by omega)).cell
        have R1 : Hid (Calls Try.prog _ _ wr (RetNum wr (loseAt xs ys at_ many k))) := hid (by rw [HAT.out k]; exact l4_any k A 256 c w.heap.size (w.heap.size + 1 + 1) xs at_ wr (Hx.out.below bwr (Nat.le_refl _)) hlt (Nat.le_refl _) c1 c3 (by omega) ha)
        have cw := hown.cellAt hzl.out k hlt
        have fw := hown.frozenAt hzl.out k
        have hbw := hown.blockGe
        clear c1 c2 c3 c4
        go_wp2_with fail
        refine R1.out.mono ?_
        rintro e w7 ⟨rfl, q, rfl⟩
        have ownq : Own (w.heap.size + 1 + 1 + 1 + 1) 3 .i64 (wr.drewN q) (.slice (some ⟨w.heap.size + 1 + 1 + 1 + 1, 0, none⟩) 256 256) zs := hown
        have cwq : (wr.drewN q).cell? ⟨w.heap.size + 1 + 1 + 1 + 1, k, none⟩ = some (.int .i64 (zs[k]?.getD 0)) := cw
        have fwq : (wr.drewN q).frozen? ⟨w.heap.size + 1 + 1 + 1 + 1, k, none⟩ = false := fw
        have belq : Below (w.heap.size + 1 + 1 + 1 + 1) w5 (wr.drewN q) := below_drewN hbel q
        obtain ⟨hs1, _⟩ := ownq.set_ hzl.out k (loseAt xs ys at_ many k)
        have hnl : Hid ((zs.set k (loseAt xs ys at_ many k)).length = 256) := hid (by rw [List.length_set]; exact hzl.out)
        have hna : Hid (∀ j, j < k + 1 → (zs.set k (loseAt xs ys at_ many k))[j]?.getD 0 = loseAt xs ys at_ many j) := hid (fun j hj => by
          rcases Nat.lt_or_ge j k with h | h
          · rw [List.getElem?_set_ne (by omega)]; exact hall.out j h
          · obtain rfl : j = k := by omega
            rw [List.getElem?_set_self (by rw [hzl.out]; exact hlt)]; rfl)
        have hbel' := belq.setCell (p := ⟨w.heap.size + 1 + 1 + 1 + 1, k, none⟩) (Nat.le_refl _) (.int .i64 (loseAt xs ys at_ many k))
        clear R1 cw fw hown hbel ownq belq
        generalize wr.drewN q = wq at *
        go_wp2
        go_roundw
        case rel => exact ⟨k + 1, _, by omega, by go_num, hs1, hnl, hna, hbel'⟩
        case measure => simp [intOf]; omega
      · obtain rfl : k = 256 := by omega
        have HZ := hid (loseL_of (xs := xs) (ys := ys) (at_ := at_) (many := many) hzl.out (fun j hj => hall.out j hj))
        go_wp2
        go_ret2
        rw [R.out, E.out, ← HZ.out]
        exact ⟨_, rfl, hown.mono (by omega), bw5.trans (hbel.mono (by omega))⟩

set_option maxHeartbeats 1600000 in
theorem lines_ok3 (A A' : Option Addr) (c n' c' : Nat) (xs ys : List Int) (at_ many : Int) (w : World) (hx : Rd .i64 w A 256 xs) (hy : Rd .i64 w A' n' ys) (h1 : 1 ≤ at_) (h2 : at_ ≤ many) (h3 : many ≤ 65536) (h : n' = 256 ∨ n' = 0) (hox : anyOdd xs = false) (hoy : anyOdd ys = false) (ha : 8 < at_) :
    Calls Try.prog 13 #[.slice A 256 c, .slice A' n' c', .int .i64 at_, .int .i64 many] w (RetOwnE w 3 .i64 (loseR xs ys at_ many) (loseE xs ys at_ many)) := by
  have hlx := hx.1
  have hly := hy.1
  have e := loseE_ok (xs := xs) (ys := ys) (at_ := at_) (many := many) (by omega) (by omega) hox hoy
  have E := hid e
  have R := hid (loseR_ok e)
  have hn' : n' ≤ 256 := by omega
  have hb4 := below4 w (.cells #[.slice A 256 c] 22) (.cells #[.slice A' n' c'] 22) (.cells #[.int .i64 at_] 3) (.cells #[.int .i64 many] 3)
  have r1 := hid (lcont_any A 256 c xs _ (hx.below hb4 (Nat.le_refl _)) (by omega))
  have r2 := hid (lcont_any A' n' c' ys _ (hy.below hb4 (Nat.le_refl _)) (by omega))
  rw [hox] at r1
  rw [hoy] at r2
  have HAT := hid (fun n : Nat => show loseAt xs ys at_ many n = 0 by unfold loseAt; rw [if_neg (by omega), if_pos ha])
  have OX := hid (anyOdd_at hox)
  have OY := hid (anyOdd_at hoy)
  have Hx := hid hx
  have Hy := hid hy
  have bA : Boxed ((((w.alloc (.cells #[.slice A 256 c] 22)).alloc (.cells #[.slice A' n' c'] 22)).alloc (.cells #[.int .i64 at_] 3)).alloc (.cells #[.int .i64 many] 3)) w.heap.size 22 (.slice A 256 c) := (((Boxed.new w _ _).alloc _).alloc _).alloc _
  have bB : Boxed ((((w.alloc (.cells #[.slice A 256 c] 22)).alloc (.cells #[.slice A' n' c'] 22)).alloc (.cells #[.int .i64 at_] 3)).alloc (.cells #[.int .i64 many] 3)) (w.heap.size + 1) 22 (.slice A' n' c') := by
    have := ((Boxed.new (w.alloc (.cells #[.slice A 256 c] 22)) 22 (.slice A' n' c')).alloc (.cells #[.int .i64 at_] 3)).alloc (.cells #[.int .i64 many] 3)
    simpa using this
  have bC : Boxed ((((w.alloc (.cells #[.slice A 256 c] 22)).alloc (.cells #[.slice A' n' c'] 22)).alloc (.cells #[.int .i64 at_] 3)).alloc (.cells #[.int .i64 many] 3)) (w.heap.size + 1 + 1) 3 (.int .i64 at_) := by
    have := (Boxed.new ((w.alloc (.cells #[.slice A 256 c] 22)).alloc (.cells #[.slice A' n' c'] 22)) 3 (.int .i64 at_)).alloc (.cells #[.int .i64 many] 3)
    simpa using this
  have bD : Boxed ((((w.alloc (.cells #[.slice A 256 c] 22)).alloc (.cells #[.slice A' n' c'] 22)).alloc (.cells #[.int .i64 at_] 3)).alloc (.cells #[.int .i64 many] 3)) (w.heap.size + 1 + 1 + 1) 3 (.int .i64 many) := by
    have := Boxed.new (((w.alloc (.cells #[.slice A 256 c] 22)).alloc (.cells #[.slice A' n' c'] 22)).alloc (.cells #[.int .i64 at_] 3)) 3 (.int .i64 many)
    simpa using this
  have BA := hid bA
  have BB := hid bB
  have BC := hid bC
  have BD := hid bD
  have hs4 := hb4.size
  have hb4s := Below.refl ((((w.alloc (.cells #[.slice A 256 c] 22)).alloc (.cells #[.slice A' n' c'] 22)).alloc (.cells #[.int .i64 at_] 3)).alloc (.cells #[.int .i64 many] 3)).heap.size ((((w.alloc (.cells #[.slice A 256 c] 22)).alloc (.cells #[.slice A' n' c'] 22)).alloc (.cells #[.int .i64 at_] 3)).alloc (.cells #[.int .i64 many] 3))
  have hsz4 : ((((w.alloc (.cells #[.slice A 256 c] 22)).alloc (.cells #[.slice A' n' c'] 22)).alloc (.cells #[.int .i64 at_] 3)).alloc (.cells #[.int .i64 many] 3)).heap.size = w.heap.size + 1 + 1 + 1 + 1 := by simp
  have HS4 := hid hsz4
  clear e hlx hly hx hy hox hoy bA bB bC bD hsz4
  have hcase : (¬ many ≤ 2 ∧ n' = 256) ∨ (¬ many ≤ 2 ∧ n' = 0) := by omega
  clear h
  rcases hcase with ⟨hm2, rfl⟩ | ⟨hm2, rfl⟩
  all_goals
    go_enter Try.func13, Try.ntmps13
    go_wp2_with fail
    refine r1.out.mono ?_
    rintro e w' ⟨rfl, rfl⟩
    go_wp2_with fail
    refine r2.out.mono ?_
    rintro e w' ⟨rfl, rfl⟩
    clear r1 r2
    go_wp2_with (first | (at_make; refine wpList_makeI _ rfl _ _ _ rfl 3 .i64 8 Try.underlying22 Try.info_int (by omega) _ _ 256 hb4s (Nat.le_refl _) (by omega) .i64 .i64 rfl rfl ?_; intro w5 hown5 b5 _ _))
    have BA := hid (BA.out.kept (grownBy_of_below (row := none) b5) (by simp))
    have BB := hid (BB.out.kept (grownBy_of_below (row := none) b5) (by simp))
    have BC := hid (BC.out.kept (grownBy_of_below (row := none) b5) (by simp))
    have BD := hid (BD.out.kept (grownBy_of_below (row := none) b5) (by simp))
    have bw5 := hb4.trans (b5.mono hs4)
    rw [HS4.out] at hown5 b5
    clear hb4 hb4s hs4 HS4
    go_loopw [65] (fun i wr => ∃ k : Nat, ∃ zs : List Int, k ≤ 256 ∧ i = .int .i64 k ∧ Own (w.heap.size + 1 + 1 + 1 + 1) 3 .i64 wr (.slice (some ⟨w.heap.size + 1 + 1 + 1 + 1, 0, none⟩) 256 256) zs ∧ Hid (zs.length = 256) ∧ Hid (∀ j, j < k → zs[j]?.getD 0 = loseAt xs ys at_ many j) ∧ Below (w.heap.size + 1 + 1 + 1 + 1) w5 wr) (fun i _ => 256 - (intOf i).toNat)
    case atStart => exact ⟨0, _, by omega, rfl, hown5, hid List.length_replicate, hid (fun j hj => absurd hj (by omega)), Below.refl _ _⟩
    case round =>
      obtain ⟨k, zs, hk, rfl, hown, hzl, hall, hbel⟩ := hrel
      by_cases hlt : k < 256
      · have hlt' : (k : Int) < 256 := by omega
        have bwr := bw5.trans (hbel.mono (by omega))
        have c1 := (boxed_low BA.out hbel (by omega)).cell
        have c2 := (boxed_low BB.out hbel (by omega)).cell
        have c3 := (boxed_low BC.out hbel (by omega)).cell
        have c4 := (boxed_low BD.out hbel (by omega)).cell
        have R1 : Hid (Calls Try.prog _ _ wr (RetNum wr (loseAt xs ys at_ many k))) := hid (by rw [HAT.out k]; exact l3_any k wr)
        have cw := hown.cellAt hzl.out k hlt
        have fw := hown.frozenAt hzl.out k
        have hbw := hown.blockGe
        clear c1 c2 c3 c4
        go_wp2_with fail
        refine R1.out.mono ?_
        rintro e w7 ⟨rfl, q, rfl⟩
        have ownq : Own (w.heap.size + 1 + 1 + 1 + 1) 3 .i64 (wr.drewN q) (.slice (some ⟨w.heap.size + 1 + 1 + 1 + 1, 0, none⟩) 256 256) zs := hown
        have cwq : (wr.drewN q).cell? ⟨w.heap.size + 1 + 1 + 1 + 1, k, none⟩ = some (.int .i64 (zs[k]?.getD 0)) := cw
        have fwq : (wr.drewN q).frozen? ⟨w.heap.size + 1 + 1 + 1 + 1, k, none⟩ = false := fw
        have belq : Below (w.heap.size + 1 + 1 + 1 + 1) w5 (wr.drewN q) := below_drewN hbel q
        obtain ⟨hs1, _⟩ := ownq.set_ hzl.out k (loseAt xs ys at_ many k)
        have hnl : Hid ((zs.set k (loseAt xs ys at_ many k)).length = 256) := hid (by rw [List.length_set]; exact hzl.out)
        have hna : Hid (∀ j, j < k + 1 → (zs.set k (loseAt xs ys at_ many k))[j]?.getD 0 = loseAt xs ys at_ many j) := hid (fun j hj => by
          rcases Nat.lt_or_ge j k with h | h
          · rw [List.getElem?_set_ne (by omega)]; exact hall.out j h
          · obtain rfl : j = k := by omega
            rw [List.getElem?_set_self (by rw [hzl.out]; exact hlt)]; rfl)
        have hbel' := belq.setCell (p := ⟨w.heap.size + 1 + 1 + 1 + 1, k, none⟩) (Nat.le_refl _) (.int .i64 (loseAt xs ys at_ many k))
        clear R1 cw fw hown hbel ownq belq
        generalize wr.drewN q = wq at *
        go_wp2
        go_roundw
        case rel => exact ⟨k + 1, _, by omega, by go_num, hs1, hnl, hna, hbel'⟩
        case measure => simp [intOf]; omega
      · obtain rfl : k = 256 := by omega
        have HZ := hid (loseL_of (xs := xs) (ys := ys) (at_ := at_) (many := many) hzl.out (fun j hj => hall.out j hj))
        go_wp2
        go_ret2
        rw [R.out, E.out, ← HZ.out]
        exact ⟨_, rfl, hown.mono (by omega), bw5.trans (hbel.mono (by omega))⟩

set_option maxHeartbeats 1600000 in
theorem lines_ok2 (A A' : Option Addr) (c n' c' : Nat) (xs ys : List Int) (at_ many : Int) (w : World) (hx : Rd .i64 w A 256 xs) (hy : Rd .i64 w A' n' ys) (h1 : 1 ≤ at_) (h2 : at_ ≤ many) (h3 : many ≤ 65536) (h : n' = 256 ∨ n' = 0) (hox : anyOdd xs = false) (hoy : anyOdd ys = false) (hm : many ≤ 2) (hn0 : 0 < n') :
    Calls Try.prog 13 #[.slice A 256 c, .slice A' n' c', .int .i64 at_, .int .i64 many] w (RetOwnE w 3 .i64 (loseR xs ys at_ many) (loseE xs ys at_ many)) := by
  have hlx := hx.1
  have hly := hy.1
  have e := loseE_ok (xs := xs) (ys := ys) (at_ := at_) (many := many) (by omega) (by omega) hox hoy
  have E := hid e
  have R := hid (loseR_ok e)
  have hn' : n' ≤ 256 := by omega
  have hb4 := below4 w (.cells #[.slice A 256 c] 22) (.cells #[.slice A' n' c'] 22) (.cells #[.int .i64 at_] 3) (.cells #[.int .i64 many] 3)
  have r1 := hid (lcont_any A 256 c xs _ (hx.below hb4 (Nat.le_refl _)) (by omega))
  have r2 := hid (lcont_any A' n' c' ys _ (hy.below hb4 (Nat.le_refl _)) (by omega))
  rw [hox] at r1
  rw [hoy] at r2
  have HAT := hid (fun n : Nat => show loseAt xs ys at_ many n = ((xs[n]?.getD 0) * (many + 1 - at_) + (ys[n]?.getD 0) * at_) / (many + 1) by unfold loseAt; rw [if_pos (by rw [hly]; exact ⟨hm, hn0⟩)])
  have OX := hid (anyOdd_at hox)
  have OY := hid (anyOdd_at hoy)
  have Hx := hid hx
  have Hy := hid hy
  have bA : Boxed ((((w.alloc (.cells #[.slice A 256 c] 22)).alloc (.cells #[.slice A' n' c'] 22)).alloc (.cells #[.int .i64 at_] 3)).alloc (.cells #[.int .i64 many] 3)) w.heap.size 22 (.slice A 256 c) := (((Boxed.new w _ _).alloc _).alloc _).alloc _
  have bB : Boxed ((((w.alloc (.cells #[.slice A 256 c] 22)).alloc (.cells #[.slice A' n' c'] 22)).alloc (.cells #[.int .i64 at_] 3)).alloc (.cells #[.int .i64 many] 3)) (w.heap.size + 1) 22 (.slice A' n' c') := by
    have := ((Boxed.new (w.alloc (.cells #[.slice A 256 c] 22)) 22 (.slice A' n' c')).alloc (.cells #[.int .i64 at_] 3)).alloc (.cells #[.int .i64 many] 3)
    simpa using this
  have bC : Boxed ((((w.alloc (.cells #[.slice A 256 c] 22)).alloc (.cells #[.slice A' n' c'] 22)).alloc (.cells #[.int .i64 at_] 3)).alloc (.cells #[.int .i64 many] 3)) (w.heap.size + 1 + 1) 3 (.int .i64 at_) := by
    have := (Boxed.new ((w.alloc (.cells #[.slice A 256 c] 22)).alloc (.cells #[.slice A' n' c'] 22)) 3 (.int .i64 at_)).alloc (.cells #[.int .i64 many] 3)
    simpa using this
  have bD : Boxed ((((w.alloc (.cells #[.slice A 256 c] 22)).alloc (.cells #[.slice A' n' c'] 22)).alloc (.cells #[.int .i64 at_] 3)).alloc (.cells #[.int .i64 many] 3)) (w.heap.size + 1 + 1 + 1) 3 (.int .i64 many) := by
    have := Boxed.new (((w.alloc (.cells #[.slice A 256 c] 22)).alloc (.cells #[.slice A' n' c'] 22)).alloc (.cells #[.int .i64 at_] 3)) 3 (.int .i64 many)
    simpa using this
  have BA := hid bA
  have BB := hid bB
  have BC := hid bC
  have BD := hid bD
  have hs4 := hb4.size
  have hb4s := Below.refl ((((w.alloc (.cells #[.slice A 256 c] 22)).alloc (.cells #[.slice A' n' c'] 22)).alloc (.cells #[.int .i64 at_] 3)).alloc (.cells #[.int .i64 many] 3)).heap.size ((((w.alloc (.cells #[.slice A 256 c] 22)).alloc (.cells #[.slice A' n' c'] 22)).alloc (.cells #[.int .i64 at_] 3)).alloc (.cells #[.int .i64 many] 3))
  have hsz4 : ((((w.alloc (.cells #[.slice A 256 c] 22)).alloc (.cells #[.slice A' n' c'] 22)).alloc (.cells #[.int .i64 at_] 3)).alloc (.cells #[.int .i64 many] 3)).heap.size = w.heap.size + 1 + 1 + 1 + 1 := by simp
  have HS4 := hid hsz4
  clear e hlx hly hx hy hox hoy bA bB bC bD hsz4
  have hcase : many ≤ 2 ∧ n' = 256 := by omega
  clear h
  rcases hcase with ⟨hm2, rfl⟩
  all_goals
    go_enter Try.func13, Try.ntmps13
    go_wp2_with fail
    refine r1.out.mono ?_
    rintro e w' ⟨rfl, rfl⟩
    go_wp2_with fail
    refine r2.out.mono ?_
    rintro e w' ⟨rfl, rfl⟩
    clear r1 r2
    go_wp2_with (first | (at_make; refine wpList_makeI _ rfl _ _ _ rfl 3 .i64 8 Try.underlying22 Try.info_int (by omega) _ _ 256 hb4s (Nat.le_refl _) (by omega) .i64 .i64 rfl rfl ?_; intro w5 hown5 b5 _ _))
    have BA := hid (BA.out.kept (grownBy_of_below (row := none) b5) (by simp))
    have BB := hid (BB.out.kept (grownBy_of_below (row := none) b5) (by simp))
    have BC := hid (BC.out.kept (grownBy_of_below (row := none) b5) (by simp))
    have BD := hid (BD.out.kept (grownBy_of_below (row := none) b5) (by simp))
    have bw5 := hb4.trans (b5.mono hs4)
    rw [HS4.out] at hown5 b5
    clear hb4 hb4s hs4 HS4
    go_loopw [65] (fun i wr => ∃ k : Nat, ∃ zs : List Int, k ≤ 256 ∧ i = .int .i64 k ∧ Own (w.heap.size + 1 + 1 + 1 + 1) 3 .i64 wr (.slice (some ⟨w.heap.size + 1 + 1 + 1 + 1, 0, none⟩) 256 256) zs ∧ Hid (zs.length = 256) ∧ Hid (∀ j, j < k → zs[j]?.getD 0 = loseAt xs ys at_ many j) ∧ Below (w.heap.size + 1 + 1 + 1 + 1) w5 wr) (fun i _ => 256 - (intOf i).toNat)
    case atStart => exact ⟨0, _, by omega, rfl, hown5, hid List.length_replicate, hid (fun j hj => absurd hj (by omega)), Below.refl _ _⟩
    case round =>
      obtain ⟨k, zs, hk, rfl, hown, hzl, hall, hbel⟩ := hrel
      by_cases hlt : k < 256
      · have hlt' : (k : Int) < 256 := by omega
        have bwr := bw5.trans (hbel.mono (by omega))
        have c1 := (boxed_low BA.out hbel (by omega)).cell
        have c2 := (boxed_low BB.out hbel (by omega)).cell
        have c3 := (boxed_low BC.out hbel (by omega)).cell
        have c4 := (boxed_low BD.out hbel (by omega)).cell
        have R1 : Hid (Calls Try.prog _ _ wr (RetNum wr (loseAt xs ys at_ many k))) := hid (by rw [HAT.out k]; exact l2_any k A A' 256 c 256 c' w.heap.size (w.heap.size + 1 + 1 + 1) (w.heap.size + 1 + 1) (w.heap.size + 1) xs ys at_ many wr (Hx.out.below bwr (Nat.le_refl _)) hlt (Nat.le_refl _) (Hy.out.below bwr (Nat.le_refl _)) hlt (Nat.le_refl _) c1 c4 c3 c2 h1 h2 hm2 (OX.out k) (OY.out k))
        have cw := hown.cellAt hzl.out k hlt
        have fw := hown.frozenAt hzl.out k
        have hbw := hown.blockGe
        clear c1 c2 c3 c4
        go_wp2_with fail
        refine R1.out.mono ?_
        rintro e w7 ⟨rfl, q, rfl⟩
        have ownq : Own (w.heap.size + 1 + 1 + 1 + 1) 3 .i64 (wr.drewN q) (.slice (some ⟨w.heap.size + 1 + 1 + 1 + 1, 0, none⟩) 256 256) zs := hown
        have cwq : (wr.drewN q).cell? ⟨w.heap.size + 1 + 1 + 1 + 1, k, none⟩ = some (.int .i64 (zs[k]?.getD 0)) := cw
        have fwq : (wr.drewN q).frozen? ⟨w.heap.size + 1 + 1 + 1 + 1, k, none⟩ = false := fw
        have belq : Below (w.heap.size + 1 + 1 + 1 + 1) w5 (wr.drewN q) := below_drewN hbel q
        obtain ⟨hs1, _⟩ := ownq.set_ hzl.out k (loseAt xs ys at_ many k)
        have hnl : Hid ((zs.set k (loseAt xs ys at_ many k)).length = 256) := hid (by rw [List.length_set]; exact hzl.out)
        have hna : Hid (∀ j, j < k + 1 → (zs.set k (loseAt xs ys at_ many k))[j]?.getD 0 = loseAt xs ys at_ many j) := hid (fun j hj => by
          rcases Nat.lt_or_ge j k with h | h
          · rw [List.getElem?_set_ne (by omega)]; exact hall.out j h
          · obtain rfl : j = k := by omega
            rw [List.getElem?_set_self (by rw [hzl.out]; exact hlt)]; rfl)
        have hbel' := belq.setCell (p := ⟨w.heap.size + 1 + 1 + 1 + 1, k, none⟩) (Nat.le_refl _) (.int .i64 (loseAt xs ys at_ many k))
        clear R1 cw fw hown hbel ownq belq
        generalize wr.drewN q = wq at *
        go_wp2
        go_roundw
        case rel => exact ⟨k + 1, _, by omega, by go_num, hs1, hnl, hna, hbel'⟩
        case measure => simp [intOf]; omega
      · obtain rfl : k = 256 := by omega
        have HZ := hid (loseL_of (xs := xs) (ys := ys) (at_ := at_) (many := many) hzl.out (fun j hj => hall.out j hj))
        go_wp2
        go_ret2
        rw [R.out, E.out, ← HZ.out]
        exact ⟨_, rfl, hown.mono (by omega), bw5.trans (hbel.mono (by omega))⟩

theorem lines_any (A A' : Option Addr) (n c n' c' : Nat) (xs ys : List Int) (at_ many : Int) (w : World) (hx : Rd .i64 w A n xs) (hy : Rd .i64 w A' n' ys) :
    Calls Try.prog 13 #[.slice A n c, .slice A' n' c', .int .i64 at_, .int .i64 many] w (RetOwnE w 3 .i64 (loseR xs ys at_ many) (loseE xs ys at_ many)) := by
  by_cases h : at_ < 1 ∨ many < at_ ∨ 65536 < many
  · exact lines_bad1 A A' n c n' c' xs ys at_ many w h
  by_cases h2 : n ≠ 256 ∨ (n' ≠ 256 ∧ n' ≠ 0)
  · exact lines_bad2 A A' n c n' c' xs ys at_ many w hx.1 hy.1 (by omega) (by omega) (by omega) h2
  obtain rfl : n = 256 := by omega
  by_cases ho : anyOdd xs = true ∨ anyOdd ys = true
  · exact lines_bad3 A A' c n' c' xs ys at_ many w hx hy (by omega) (by omega) (by omega) (by omega) ho
  have hox : anyOdd xs = false := by simpa using (not_or.1 ho).1
  have hoy : anyOdd ys = false := by simpa using (not_or.1 ho).2
  by_cases hm : many ≤ 2 ∧ 0 < n'
  · exact lines_ok2 A A' c n' c' xs ys at_ many w hx hy (by omega) (by omega) (by omega) (by omega) hox hoy hm.1 hm.2
  by_cases ha : at_ ≤ 8
  · exact lines_ok4 A A' c n' c' xs ys at_ many w hx hy (by omega) (by omega) (by omega) (by omega) hox hoy hm ha
  · exact lines_ok3 A A' c n' c' xs ys at_ many w hx hy (by omega) (by omega) (by omega) (by omega) hox hoy (by omega)
end Go.Proofs.Ytdcidpgabhbhbaa
