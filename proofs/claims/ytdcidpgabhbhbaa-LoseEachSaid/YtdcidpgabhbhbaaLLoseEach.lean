/-
  The law LoseEach: each lost line is filled for itself, and in a run of two each is nearer to its side; any lines (at most 1000 on each side, the law's own bound), numbers, and place. No condition.
-/
import Derived.Test.YtdcidpgabhbhbaaRows
import Derived.WalkKit
import Derived.ProofKit
import Derived.OpenShut
import Derived.ShutString
import Derived.ChangeOld
import Derived.Below
import Derived.Test.YtdcidpgabhbhbaaLoseL
import Derived.BigQuiet
import Derived.Deep.QuietTactic
namespace Go.Proofs.Ytdcidpgabhbhbaa.loseEach
open Go.ChangeShapes Go.WideShapes Go.ChangeAt Go.RowKit
open Go.ChangeMaps (open_string shut_string)
open Go.Proofs.Ytdcidpgabhbhbaa
set_option linter.unusedVariables false

theorem own : ownKnob Try.prog.godebug = none := by kernel_rfl
theorem laidOut : laidOutB Try.prog = true := by kernel_rfl

theorem each_at {xs ys : List Int} {at_ many : Int} {p j : Nat} (hj : j < 256) (h : ys.length = 256) : loseAt (fill (xs[p]?.getD 0)) (fill (ys[p]?.getD 0)) at_ many j = loseAt xs ys at_ many p := by
  unfold loseAt
  rw [fill_at hj, fill_at hj, fill_len, h]
theorem each_at0 {xs ys : List Int} {at_ many : Int} {p j : Nat} (hj : j < 256) (h : ys.length = 0) : loseAt (fill (xs[p]?.getD 0)) [] at_ many j = loseAt xs ys at_ many p := by
  unfold loseAt
  rw [fill_at hj, if_neg (show ¬ (many ≤ 2 ∧ 0 < ([] : List Int).length) from fun h2 => absurd h2.2 (by simp)), if_neg (show ¬ (many ≤ 2 ∧ 0 < ys.length) from fun h2 => by omega)]
theorem far_at {xs ys : List Int} {at_ many : Int} {p : Nat} (h : 2 < many) : loseAt xs [] at_ many p = loseAt xs ys at_ many p := by
  unfold loseAt
  rw [if_neg (show ¬ (many ≤ 2 ∧ 0 < ([] : List Int).length) from fun h2 => by omega), if_neg (show ¬ (many ≤ 2 ∧ 0 < ys.length) from fun h2 => by omega)]
theorem odd_at {xs : List Int} (h : anyOdd xs = false) (p : Nat) : oddB (xs[p]?.getD 0) = false := by
  have := anyOdd_at h p
  exact oddB_no (by omega) (by omega)
theorem abs_of (a b : Int) (ha : -268435455 ≤ a ∧ a ≤ 268435455) (hb : -268435455 ≤ b ∧ b ≤ 268435455) : ∃ M : Int, (if a - b < b - a then b - a else a - b) = M ∧ 0 ≤ M ∧ M ≤ 1073741824 ∧ (M = a - b ∨ M = b - a) := by
  refine ⟨_, rfl, ?_⟩
  split <;> omega

set_option maxRecDepth 8000 in
set_option maxHeartbeats 1600000 in
theorem each_far256 (a0 a1 : Option Addr) (cap0 cap1 : Nat) (xs ys : List Int) (a2 a3 : Int) (p : Nat) (w : World) (Hx : Hid (Rd .i64 w a0 256 xs)) (Hy : Hid (Rd .i64 w a1 256 ys)) (hp : p < 256) (h1 : (1 : Int) ≤ a2) (h2 : (a2 : Int) ≤ a3) (h3 : (a3 : Int) ≤ 65536) (hox : anyOdd xs = false) (hoy : anyOdd ys = false) (hm : 2 < a3) :
    Calls Try.prog 4 #[.slice a0 256 cap0, .slice a1 256 cap1, .int .i64 a2, .int .i64 a3, .int .i64 p] w fun e w' => e = .returned (.bool true) ∧ Below w.heap.size w w' := by
  have hp' : (p : Int) ≤ 255 := by omega
  have hlx := Hx.out.1
  have hly := Hy.out.1
  have e := loseE_ok (xs := xs) (ys := ys) (at_ := a2) (many := a3) (by omega) (by omega) hox hoy
  have E := hid e
  have L := hid (show (loseR xs ys a2 a3).length = 256 by rw [loseR_ok e]; exact loseL_len _ _ _ _)
  have RL := hid (loseR_ok e)
  have em : loseE (fill (xs[p]?.getD 0)) (fill (ys[p]?.getD 0)) a2 a3 = 0 := loseE_ok (by omega) (by rw [fill_len, fill_len]; simp) (anyOdd_fill (odd_at hox p)) (anyOdd_fill (odd_at hoy p))
  have EM := hid em
  have LM := hid (show (loseR (fill (xs[p]?.getD 0)) (fill (ys[p]?.getD 0)) a2 a3).length = 256 by rw [loseR_ok em]; exact loseL_len _ _ _ _)
  have AM : Hid (allB (loseR (fill (xs[p]?.getD 0)) (fill (ys[p]?.getD 0)) a2 a3) (loseAt xs ys a2 a3 p) = true) := hid (by
    rw [loseR_ok em]
    refine allB_yes (loseL_len _ _ _ _) fun j hj => ?_
    rw [loseL_at hj, each_at hj hly])
  have en : loseE xs [] a2 a3 = 0 := loseE_ok (by omega) (by rw [hlx]; simp) hox rfl
  have EN := hid en
  have LN := hid (show (loseR xs [] a2 a3).length = 256 by rw [loseR_ok en]; exact loseL_len _ _ _ _)
  have RN := hid (loseR_ok en)
  have FAR := hid (far_at (xs := xs) (ys := ys) (at_ := a2) (p := p) hm)
  clear en
  clear e em hlx hly hox hoy
  obtain ⟨ba, oa, rfl, _⟩ := Hx.out.addr (by omega)
  obtain ⟨bb, ob, rfl, _⟩ := Hy.out.addr (by omega)
  go_enter Try.func4, Try.ntmps4
  go_wp2_with fail
  refine (alive_any w).mono ?_
  rintro e w1 ⟨rfl, b1⟩
  have r1 := hid (lines_any _ _ 256 cap0 256 cap1 xs ys a2 a3 w1 (Hx.out.below b1 (Nat.le_refl _)) (Hy.out.below b1 (Nat.le_refl _)))
  go_wp2_with fail
  refine r1.out.mono ?_
  rw [E.out]
  intro e w2 hr
  obtain ⟨A3, c3, rfl, _, hrl, _, hb2⟩ := hr.opens L.out
  rw [RL.out] at hrl
  have b2 := b1.trans (hb2.mono b1.size)
  clear r1 hr hb2 b1 E L RL
  obtain ⟨bl, ol, rfl, _⟩ := hrl.addr (by omega)
  have cx := (Hx.out.below b2 (Nat.le_refl _)).cellAt p hp
  go_wp2_with fail
  refine (filled_any _ w2).mono ?_
  intro e w3 hr
  obtain ⟨A4, c4, rfl, _, hrx, _, hb3⟩ := hr.opens (n := 256) (fill_len _)
  have b3 := b2.trans (hb3.mono b2.size)
  have hrl := hrl.below hb3 (Nat.le_refl _)
  clear hr hb3 b2 cx
  have cy := (Hy.out.below b3 (Nat.le_refl _)).cellAt p hp
  go_wp2_with fail
  refine (filled_any _ w3).mono ?_
  intro e w4 hr
  obtain ⟨A5, c5, rfl, _, hry, _, hb3⟩ := hr.opens (n := 256) (fill_len _)
  have b4 := b3.trans (hb3.mono b3.size)
  have hrl := hrl.below hb3 (Nat.le_refl _)
  have hrx := hrx.below hb3 (Nat.le_refl _)
  clear hr hb3 b3 cy
  go_wp2_with fail
  refine (lines_any A4 A5 256 c4 256 c5 _ _ a2 a3 w4 hrx hry).mono ?_
  rw [EM.out]
  intro e w5 hr
  obtain ⟨A6, c6, rfl, _, hrm, _, hb3⟩ := hr.opens LM.out
  have b5 := b4.trans (hb3.mono b4.size)
  have hrl := hrl.below hb3 (Nat.le_refl _)
  have cl := hrl.cellAt p hp
  rw [loseL_at hp] at cl
  clear hr hb3 b4 hrx EM LM
  go_wp2_with fail
  refine (all_any A6 256 c6 _ _ w5 hrm (by omega)).mono ?_
  rintro e w' ⟨rfl, rfl⟩
  rw [AM.out]
  clear AM hrm
  go_wp2_with fail
  refine (lines_any _ none 256 cap0 0 0 xs [] a2 a3 w5 (Hx.out.below b5 (Nat.le_refl _)) Rd.nil).mono ?_
  rw [EN.out]
  intro e w6 hr
  obtain ⟨A7, c7, rfl, _, hrn, _, hb3⟩ := hr.opens LN.out
  rw [RN.out] at hrn
  have b6 := b5.trans (hb3.mono b5.size)
  have hrl := hrl.below hb3 (Nat.le_refl _)
  obtain ⟨bn, on, rfl, _⟩ := hrn.addr (by omega)
  have cn := hrn.cellAt p hp
  rw [loseL_at hp, FAR.out] at cn
  have cl := hrl.cellAt p hp
  rw [loseL_at hp] at cl
  clear hr hb3 b5 EN LN RN FAR
  have hvv : (loseAt xs ys a2 a3 p == loseAt xs ys a2 a3 p) = true := by simp
  generalize loseAt xs ys a2 a3 p = V at *
  go_wp2
  go_quiet (fail)
  go_wp2
  go_ret
  exact ⟨rfl, below_drewN b6 _⟩

set_option maxRecDepth 8000 in
set_option maxHeartbeats 1600000 in
theorem each_far0 (a0 a1 : Option Addr) (cap0 cap1 : Nat) (xs ys : List Int) (a2 a3 : Int) (p : Nat) (w : World) (Hx : Hid (Rd .i64 w a0 256 xs)) (Hy : Hid (Rd .i64 w a1 0 ys)) (hp : p < 256) (h1 : (1 : Int) ≤ a2) (h2 : (a2 : Int) ≤ a3) (h3 : (a3 : Int) ≤ 65536) (hox : anyOdd xs = false) (hoy : anyOdd ys = false) (hm : 2 < a3) :
    Calls Try.prog 4 #[.slice a0 256 cap0, .slice a1 0 cap1, .int .i64 a2, .int .i64 a3, .int .i64 p] w fun e w' => e = .returned (.bool true) ∧ Below w.heap.size w w' := by
  have hp' : (p : Int) ≤ 255 := by omega
  have hlx := Hx.out.1
  have hly := Hy.out.1
  have e := loseE_ok (xs := xs) (ys := ys) (at_ := a2) (many := a3) (by omega) (by omega) hox hoy
  have E := hid e
  have L := hid (show (loseR xs ys a2 a3).length = 256 by rw [loseR_ok e]; exact loseL_len _ _ _ _)
  have RL := hid (loseR_ok e)
  have em : loseE (fill (xs[p]?.getD 0)) [] a2 a3 = 0 := loseE_ok (by omega) (by rw [fill_len]; simp) (anyOdd_fill (odd_at hox p)) (rfl)
  have EM := hid em
  have LM := hid (show (loseR (fill (xs[p]?.getD 0)) [] a2 a3).length = 256 by rw [loseR_ok em]; exact loseL_len _ _ _ _)
  have AM : Hid (allB (loseR (fill (xs[p]?.getD 0)) [] a2 a3) (loseAt xs ys a2 a3 p) = true) := hid (by
    rw [loseR_ok em]
    refine allB_yes (loseL_len _ _ _ _) fun j hj => ?_
    rw [loseL_at hj, each_at0 hj hly])
  have en : loseE xs [] a2 a3 = 0 := loseE_ok (by omega) (by rw [hlx]; simp) hox rfl
  have EN := hid en
  have LN := hid (show (loseR xs [] a2 a3).length = 256 by rw [loseR_ok en]; exact loseL_len _ _ _ _)
  have RN := hid (loseR_ok en)
  have FAR := hid (far_at (xs := xs) (ys := ys) (at_ := a2) (p := p) hm)
  clear en
  clear e em hlx hly hox hoy
  obtain ⟨ba, oa, rfl, _⟩ := Hx.out.addr (by omega)
  go_enter Try.func4, Try.ntmps4
  go_wp2_with fail
  refine (alive_any w).mono ?_
  rintro e w1 ⟨rfl, b1⟩
  have r1 := hid (lines_any _ _ 256 cap0 0 cap1 xs ys a2 a3 w1 (Hx.out.below b1 (Nat.le_refl _)) (Hy.out.below b1 (Nat.le_refl _)))
  go_wp2_with fail
  refine r1.out.mono ?_
  rw [E.out]
  intro e w2 hr
  obtain ⟨A3, c3, rfl, _, hrl, _, hb2⟩ := hr.opens L.out
  rw [RL.out] at hrl
  have b2 := b1.trans (hb2.mono b1.size)
  clear r1 hr hb2 b1 E L RL
  obtain ⟨bl, ol, rfl, _⟩ := hrl.addr (by omega)
  have cx := (Hx.out.below b2 (Nat.le_refl _)).cellAt p hp
  go_wp2_with fail
  refine (filled_any _ w2).mono ?_
  intro e w3 hr
  obtain ⟨A4, c4, rfl, _, hrx, _, hb3⟩ := hr.opens (n := 256) (fill_len _)
  have b3 := b2.trans (hb3.mono b2.size)
  have hrl := hrl.below hb3 (Nat.le_refl _)
  clear hr hb3 b2 cx
  go_wp2_with fail
  refine (lines_any A4 none 256 c4 0 0 _ [] a2 a3 w3 hrx Rd.nil).mono ?_
  rw [EM.out]
  intro e w5 hr
  obtain ⟨A6, c6, rfl, _, hrm, _, hb3⟩ := hr.opens LM.out
  have b5 := b3.trans (hb3.mono b3.size)
  have hrl := hrl.below hb3 (Nat.le_refl _)
  have cl := hrl.cellAt p hp
  rw [loseL_at hp] at cl
  clear hr hb3 b3 hrx EM LM
  go_wp2_with fail
  refine (all_any A6 256 c6 _ _ w5 hrm (by omega)).mono ?_
  rintro e w' ⟨rfl, rfl⟩
  rw [AM.out]
  clear AM hrm
  go_wp2_with fail
  refine (lines_any _ none 256 cap0 0 0 xs [] a2 a3 w5 (Hx.out.below b5 (Nat.le_refl _)) Rd.nil).mono ?_
  rw [EN.out]
  intro e w6 hr
  obtain ⟨A7, c7, rfl, _, hrn, _, hb3⟩ := hr.opens LN.out
  rw [RN.out] at hrn
  have b6 := b5.trans (hb3.mono b5.size)
  have hrl := hrl.below hb3 (Nat.le_refl _)
  obtain ⟨bn, on, rfl, _⟩ := hrn.addr (by omega)
  have cn := hrn.cellAt p hp
  rw [loseL_at hp, FAR.out] at cn
  have cl := hrl.cellAt p hp
  rw [loseL_at hp] at cl
  clear hr hb3 b5 EN LN RN FAR
  have hvv : (loseAt xs ys a2 a3 p == loseAt xs ys a2 a3 p) = true := by simp
  generalize loseAt xs ys a2 a3 p = V at *
  go_wp2
  go_quiet (fail)
  go_wp2
  go_ret
  exact ⟨rfl, below_drewN b6 _⟩

set_option maxRecDepth 8000 in
set_option maxHeartbeats 1600000 in
theorem each_near0 (a0 a1 : Option Addr) (cap0 cap1 : Nat) (xs ys : List Int) (a2 a3 : Int) (p : Nat) (w : World) (Hx : Hid (Rd .i64 w a0 256 xs)) (Hy : Hid (Rd .i64 w a1 0 ys)) (hp : p < 256) (h1 : (1 : Int) ≤ a2) (h2 : (a2 : Int) ≤ a3) (h3 : (a3 : Int) ≤ 65536) (hox : anyOdd xs = false) (hoy : anyOdd ys = false) (hm : a3 ≤ 2) :
    Calls Try.prog 4 #[.slice a0 256 cap0, .slice a1 0 cap1, .int .i64 a2, .int .i64 a3, .int .i64 p] w fun e w' => e = .returned (.bool true) ∧ Below w.heap.size w w' := by
  have hp' : (p : Int) ≤ 255 := by omega
  have hlx := Hx.out.1
  have hly := Hy.out.1
  have e := loseE_ok (xs := xs) (ys := ys) (at_ := a2) (many := a3) (by omega) (by omega) hox hoy
  have E := hid e
  have L := hid (show (loseR xs ys a2 a3).length = 256 by rw [loseR_ok e]; exact loseL_len _ _ _ _)
  have RL := hid (loseR_ok e)
  have em : loseE (fill (xs[p]?.getD 0)) [] a2 a3 = 0 := loseE_ok (by omega) (by rw [fill_len]; simp) (anyOdd_fill (odd_at hox p)) (rfl)
  have EM := hid em
  have LM := hid (show (loseR (fill (xs[p]?.getD 0)) [] a2 a3).length = 256 by rw [loseR_ok em]; exact loseL_len _ _ _ _)
  have AM : Hid (allB (loseR (fill (xs[p]?.getD 0)) [] a2 a3) (loseAt xs ys a2 a3 p) = true) := hid (by
    rw [loseR_ok em]
    refine allB_yes (loseL_len _ _ _ _) fun j hj => ?_
    rw [loseL_at hj, each_at0 hj hly])
  clear e em hlx hly hox hoy
  obtain ⟨ba, oa, rfl, _⟩ := Hx.out.addr (by omega)
  go_enter Try.func4, Try.ntmps4
  go_wp2_with fail
  refine (alive_any w).mono ?_
  rintro e w1 ⟨rfl, b1⟩
  have r1 := hid (lines_any _ _ 256 cap0 0 cap1 xs ys a2 a3 w1 (Hx.out.below b1 (Nat.le_refl _)) (Hy.out.below b1 (Nat.le_refl _)))
  go_wp2_with fail
  refine r1.out.mono ?_
  rw [E.out]
  intro e w2 hr
  obtain ⟨A3, c3, rfl, _, hrl, _, hb2⟩ := hr.opens L.out
  rw [RL.out] at hrl
  have b2 := b1.trans (hb2.mono b1.size)
  clear r1 hr hb2 b1 E L RL
  obtain ⟨bl, ol, rfl, _⟩ := hrl.addr (by omega)
  have cx := (Hx.out.below b2 (Nat.le_refl _)).cellAt p hp
  go_wp2_with fail
  refine (filled_any _ w2).mono ?_
  intro e w3 hr
  obtain ⟨A4, c4, rfl, _, hrx, _, hb3⟩ := hr.opens (n := 256) (fill_len _)
  have b3 := b2.trans (hb3.mono b2.size)
  have hrl := hrl.below hb3 (Nat.le_refl _)
  clear hr hb3 b2 cx
  go_wp2_with fail
  refine (lines_any A4 none 256 c4 0 0 _ [] a2 a3 w3 hrx Rd.nil).mono ?_
  rw [EM.out]
  intro e w5 hr
  obtain ⟨A6, c6, rfl, _, hrm, _, hb3⟩ := hr.opens LM.out
  have b5 := b3.trans (hb3.mono b3.size)
  have hrl := hrl.below hb3 (Nat.le_refl _)
  have cl := hrl.cellAt p hp
  rw [loseL_at hp] at cl
  clear hr hb3 b3 hrx EM LM
  go_wp2_with fail
  refine (all_any A6 256 c6 _ _ w5 hrm (by omega)).mono ?_
  rintro e w' ⟨rfl, rfl⟩
  rw [AM.out]
  clear AM hrm
  go_wp2
  all_goals go_ret
  all_goals exact ⟨rfl, b5⟩

set_option maxRecDepth 8000 in
set_option maxHeartbeats 1600000 in
theorem each_one (a0 a1 : Option Addr) (cap0 cap1 : Nat) (xs ys : List Int) (a2 a3 : Int) (p : Nat) (w : World) (Hx : Hid (Rd .i64 w a0 256 xs)) (Hy : Hid (Rd .i64 w a1 256 ys)) (hp : p < 256) (h1 : (1 : Int) ≤ a2) (h2 : (a2 : Int) ≤ a3) (h3 : (a3 : Int) ≤ 65536) (hox : anyOdd xs = false) (hoy : anyOdd ys = false) (hm : a3 < 2) :
    Calls Try.prog 4 #[.slice a0 256 cap0, .slice a1 256 cap1, .int .i64 a2, .int .i64 a3, .int .i64 p] w fun e w' => e = .returned (.bool true) ∧ Below w.heap.size w w' := by
  have hp' : (p : Int) ≤ 255 := by omega
  have hlx := Hx.out.1
  have hly := Hy.out.1
  have e := loseE_ok (xs := xs) (ys := ys) (at_ := a2) (many := a3) (by omega) (by omega) hox hoy
  have E := hid e
  have L := hid (show (loseR xs ys a2 a3).length = 256 by rw [loseR_ok e]; exact loseL_len _ _ _ _)
  have RL := hid (loseR_ok e)
  have em : loseE (fill (xs[p]?.getD 0)) (fill (ys[p]?.getD 0)) a2 a3 = 0 := loseE_ok (by omega) (by rw [fill_len, fill_len]; simp) (anyOdd_fill (odd_at hox p)) (anyOdd_fill (odd_at hoy p))
  have EM := hid em
  have LM := hid (show (loseR (fill (xs[p]?.getD 0)) (fill (ys[p]?.getD 0)) a2 a3).length = 256 by rw [loseR_ok em]; exact loseL_len _ _ _ _)
  have AM : Hid (allB (loseR (fill (xs[p]?.getD 0)) (fill (ys[p]?.getD 0)) a2 a3) (loseAt xs ys a2 a3 p) = true) := hid (by
    rw [loseR_ok em]
    refine allB_yes (loseL_len _ _ _ _) fun j hj => ?_
    rw [loseL_at hj, each_at hj hly])
  clear e em hlx hly hox hoy
  obtain ⟨ba, oa, rfl, _⟩ := Hx.out.addr (by omega)
  obtain ⟨bb, ob, rfl, _⟩ := Hy.out.addr (by omega)
  go_enter Try.func4, Try.ntmps4
  go_wp2_with fail
  refine (alive_any w).mono ?_
  rintro e w1 ⟨rfl, b1⟩
  have r1 := hid (lines_any _ _ 256 cap0 256 cap1 xs ys a2 a3 w1 (Hx.out.below b1 (Nat.le_refl _)) (Hy.out.below b1 (Nat.le_refl _)))
  go_wp2_with fail
  refine r1.out.mono ?_
  rw [E.out]
  intro e w2 hr
  obtain ⟨A3, c3, rfl, _, hrl, _, hb2⟩ := hr.opens L.out
  rw [RL.out] at hrl
  have b2 := b1.trans (hb2.mono b1.size)
  clear r1 hr hb2 b1 E L RL
  obtain ⟨bl, ol, rfl, _⟩ := hrl.addr (by omega)
  have cx := (Hx.out.below b2 (Nat.le_refl _)).cellAt p hp
  go_wp2_with fail
  refine (filled_any _ w2).mono ?_
  intro e w3 hr
  obtain ⟨A4, c4, rfl, _, hrx, _, hb3⟩ := hr.opens (n := 256) (fill_len _)
  have b3 := b2.trans (hb3.mono b2.size)
  have hrl := hrl.below hb3 (Nat.le_refl _)
  clear hr hb3 b2 cx
  have cy := (Hy.out.below b3 (Nat.le_refl _)).cellAt p hp
  go_wp2_with fail
  refine (filled_any _ w3).mono ?_
  intro e w4 hr
  obtain ⟨A5, c5, rfl, _, hry, _, hb3⟩ := hr.opens (n := 256) (fill_len _)
  have b4 := b3.trans (hb3.mono b3.size)
  have hrl := hrl.below hb3 (Nat.le_refl _)
  have hrx := hrx.below hb3 (Nat.le_refl _)
  clear hr hb3 b3 cy
  go_wp2_with fail
  refine (lines_any A4 A5 256 c4 256 c5 _ _ a2 a3 w4 hrx hry).mono ?_
  rw [EM.out]
  intro e w5 hr
  obtain ⟨A6, c6, rfl, _, hrm, _, hb3⟩ := hr.opens LM.out
  have b5 := b4.trans (hb3.mono b4.size)
  have hrl := hrl.below hb3 (Nat.le_refl _)
  have cl := hrl.cellAt p hp
  rw [loseL_at hp] at cl
  clear hr hb3 b4 hrx EM LM
  go_wp2_with fail
  refine (all_any A6 256 c6 _ _ w5 hrm (by omega)).mono ?_
  rintro e w' ⟨rfl, rfl⟩
  rw [AM.out]
  clear AM hrm
  go_wp2
  all_goals go_ret
  all_goals exact ⟨rfl, b5⟩

set_option maxRecDepth 8000 in
set_option maxHeartbeats 1600000 in
theorem each_two1 (a0 a1 : Option Addr) (cap0 cap1 : Nat) (xs ys : List Int)  (p : Nat) (w : World) (Hx : Hid (Rd .i64 w a0 256 xs)) (Hy : Hid (Rd .i64 w a1 256 ys)) (hp : p < 256) (h1 : (1 : Int) ≤ 1) (h2 : (1 : Int) ≤ 2) (h3 : (2 : Int) ≤ 65536) (hox : anyOdd xs = false) (hoy : anyOdd ys = false)  :
    Calls Try.prog 4 #[.slice a0 256 cap0, .slice a1 256 cap1, .int .i64 1, .int .i64 2, .int .i64 p] w fun e w' => e = .returned (.bool true) ∧ Below w.heap.size w w' := by
  have hp' : (p : Int) ≤ 255 := by omega
  have hlx := Hx.out.1
  have hly := Hy.out.1
  have e := loseE_ok (xs := xs) (ys := ys) (at_ := 1) (many := 2) (by omega) (by omega) hox hoy
  have E := hid e
  have L := hid (show (loseR xs ys 1 2).length = 256 by rw [loseR_ok e]; exact loseL_len _ _ _ _)
  have RL := hid (loseR_ok e)
  have em : loseE (fill (xs[p]?.getD 0)) (fill (ys[p]?.getD 0)) 1 2 = 0 := loseE_ok (by omega) (by rw [fill_len, fill_len]; simp) (anyOdd_fill (odd_at hox p)) (anyOdd_fill (odd_at hoy p))
  have EM := hid em
  have LM := hid (show (loseR (fill (xs[p]?.getD 0)) (fill (ys[p]?.getD 0)) 1 2).length = 256 by rw [loseR_ok em]; exact loseL_len _ _ _ _)
  have AM : Hid (allB (loseR (fill (xs[p]?.getD 0)) (fill (ys[p]?.getD 0)) 1 2) (loseAt xs ys 1 2 p) = true) := hid (by
    rw [loseR_ok em]
    refine allB_yes (loseL_len _ _ _ _) fun j hj => ?_
    rw [loseL_at hj, each_at hj hly])
  have en : loseE xs ys 2 2 = 0 := loseE_ok (by omega) (by omega) hox hoy
  have EN := hid en
  have LN := hid (show (loseR xs ys 2 2).length = 256 by rw [loseR_ok en]; exact loseL_len _ _ _ _)
  have RN := hid (loseR_ok en)
  have v1 : loseAt xs ys 1 2 p = ((xs[p]?.getD 0) * 2 + ys[p]?.getD 0) / 3 := by
    unfold loseAt; rw [if_pos (by rw [hly]; omega)]; simp
  have v2 : loseAt xs ys 2 2 p = ((xs[p]?.getD 0) + (ys[p]?.getD 0) * 2) / 3 := by
    unfold loseAt; rw [if_pos (by rw [hly]; omega)]; simp
  have bx := anyOdd_at hox p
  have by_ := anyOdd_at hoy p
  have V : ∃ V1 V2 M1 M2 M3 M4 : Int, loseAt xs ys 1 2 p = V1 ∧ loseAt xs ys 2 2 p = V2 ∧ (-268435455 ≤ V1 ∧ V1 ≤ 268435455) ∧ (-268435455 ≤ V2 ∧ V2 ≤ 268435455) ∧
      (if V1 - xs[p]?.getD 0 < xs[p]?.getD 0 - V1 then xs[p]?.getD 0 - V1 else V1 - xs[p]?.getD 0) = M1 ∧ (if V2 - xs[p]?.getD 0 < xs[p]?.getD 0 - V2 then xs[p]?.getD 0 - V2 else V2 - xs[p]?.getD 0) = M2 ∧
      (if V2 - ys[p]?.getD 0 < ys[p]?.getD 0 - V2 then ys[p]?.getD 0 - V2 else V2 - ys[p]?.getD 0) = M3 ∧ (if V1 - ys[p]?.getD 0 < ys[p]?.getD 0 - V1 then ys[p]?.getD 0 - V1 else V1 - ys[p]?.getD 0) = M4 ∧
      (0 ≤ M1 ∧ M1 ≤ 1073741824) ∧ (0 ≤ M2 ∧ M2 ≤ 1073741824) ∧ (0 ≤ M3 ∧ M3 ≤ 1073741824) ∧ (0 ≤ M4 ∧ M4 ≤ 1073741824) ∧ decide (M1 ≤ M2 + 1) = true ∧ decide (M3 ≤ M4 + 1) = true := by
    rw [v1, v2]
    generalize xs[p]?.getD 0 = X at *
    generalize ys[p]?.getD 0 = Y at *
    refine ⟨_, _, _, _, _, _, rfl, rfl, by omega, by omega, rfl, rfl, rfl, rfl, ?_, ?_, ?_, ?_, decide_eq_true ?_, decide_eq_true ?_⟩
    · split <;> omega
    · split <;> omega
    · split <;> omega
    · split <;> omega
    · split <;> split <;> omega
    · split <;> split <;> omega
  have V := hid V
  have BX := hid bx
  have BY := hid by_
  clear en v1 v2 bx by_
  clear e em hlx hly hox hoy
  obtain ⟨ba, oa, rfl, _⟩ := Hx.out.addr (by omega)
  obtain ⟨bb, ob, rfl, _⟩ := Hy.out.addr (by omega)
  go_enter Try.func4, Try.ntmps4
  go_wp2_with fail
  refine (alive_any w).mono ?_
  rintro e w1 ⟨rfl, b1⟩
  have r1 := hid (lines_any _ _ 256 cap0 256 cap1 xs ys 1 2 w1 (Hx.out.below b1 (Nat.le_refl _)) (Hy.out.below b1 (Nat.le_refl _)))
  go_wp2_with fail
  refine r1.out.mono ?_
  rw [E.out]
  intro e w2 hr
  obtain ⟨A3, c3, rfl, _, hrl, _, hb2⟩ := hr.opens L.out
  rw [RL.out] at hrl
  have b2 := b1.trans (hb2.mono b1.size)
  clear r1 hr hb2 b1 E L RL
  obtain ⟨bl, ol, rfl, _⟩ := hrl.addr (by omega)
  have cx := (Hx.out.below b2 (Nat.le_refl _)).cellAt p hp
  go_wp2_with fail
  refine (filled_any _ w2).mono ?_
  intro e w3 hr
  obtain ⟨A4, c4, rfl, _, hrx, _, hb3⟩ := hr.opens (n := 256) (fill_len _)
  have b3 := b2.trans (hb3.mono b2.size)
  have hrl := hrl.below hb3 (Nat.le_refl _)
  clear hr hb3 b2 cx
  have cy := (Hy.out.below b3 (Nat.le_refl _)).cellAt p hp
  go_wp2_with fail
  refine (filled_any _ w3).mono ?_
  intro e w4 hr
  obtain ⟨A5, c5, rfl, _, hry, _, hb3⟩ := hr.opens (n := 256) (fill_len _)
  have b4 := b3.trans (hb3.mono b3.size)
  have hrl := hrl.below hb3 (Nat.le_refl _)
  have hrx := hrx.below hb3 (Nat.le_refl _)
  clear hr hb3 b3 cy
  go_wp2_with fail
  refine (lines_any A4 A5 256 c4 256 c5 _ _ 1 2 w4 hrx hry).mono ?_
  rw [EM.out]
  intro e w5 hr
  obtain ⟨A6, c6, rfl, _, hrm, _, hb3⟩ := hr.opens LM.out
  have b5 := b4.trans (hb3.mono b4.size)
  have hrl := hrl.below hb3 (Nat.le_refl _)
  have cl := hrl.cellAt p hp
  rw [loseL_at hp] at cl
  clear hr hb3 b4 hrx EM LM
  go_wp2_with fail
  refine (all_any A6 256 c6 _ _ w5 hrm (by omega)).mono ?_
  rintro e w' ⟨rfl, rfl⟩
  rw [AM.out]
  clear AM hrm
  go_wp2_with fail
  refine (lines_any _ _ 256 cap0 256 cap1 xs ys 2 2 w5 (Hx.out.below b5 (Nat.le_refl _)) (Hy.out.below b5 (Nat.le_refl _))).mono ?_
  rw [EN.out]
  intro e w6 hr
  obtain ⟨A7, c7, rfl, _, hrn, _, hb3⟩ := hr.opens LN.out
  rw [RN.out] at hrn
  have b6 := b5.trans (hb3.mono b5.size)
  have hrl := hrl.below hb3 (Nat.le_refl _)
  obtain ⟨bn, on, rfl, _⟩ := hrn.addr (by omega)
  have cn := hrn.cellAt p hp
  rw [loseL_at hp] at cn
  have cl := hrl.cellAt p hp
  rw [loseL_at hp] at cl
  have cx := fun q => ((Hx.out.below b6 (Nat.le_refl _)).drewN q).cellAt p hp
  have cy := fun q => ((Hy.out.below b6 (Nat.le_refl _)).drewN q).cellAt p hp
  obtain ⟨V1, V2, M1, M2, M3, M4, e1, e2, ⟨v1a, v1b⟩, ⟨v2a, v2b⟩, m1, m2, m3, m4, ⟨m1a, m1b⟩, ⟨m2a, m2b⟩, ⟨m3a, m3b⟩, ⟨m4a, m4b⟩, q1, q2⟩ := V.out
  obtain ⟨bxa, bxb⟩ := BX.out
  obtain ⟨bya, byb⟩ := BY.out
  rw [e1] at cl
  rw [e2] at cn
  clear hr hb3 b5 EN LN RN V BX BY e1 e2
  generalize xs[p]?.getD 0 = X at *
  generalize ys[p]?.getD 0 = Y at *
  go_wp2
  go_quiet (fail)
  go_wp2
  go_quiet (fail)
  go_wp2
  go_ret
  exact ⟨rfl, below_drewN b6 _⟩

set_option maxRecDepth 8000 in
set_option maxHeartbeats 1600000 in
theorem each_two2 (a0 a1 : Option Addr) (cap0 cap1 : Nat) (xs ys : List Int)  (p : Nat) (w : World) (Hx : Hid (Rd .i64 w a0 256 xs)) (Hy : Hid (Rd .i64 w a1 256 ys)) (hp : p < 256) (h1 : (1 : Int) ≤ 2) (h2 : (2 : Int) ≤ 2) (h3 : (2 : Int) ≤ 65536) (hox : anyOdd xs = false) (hoy : anyOdd ys = false)  :
    Calls Try.prog 4 #[.slice a0 256 cap0, .slice a1 256 cap1, .int .i64 2, .int .i64 2, .int .i64 p] w fun e w' => e = .returned (.bool true) ∧ Below w.heap.size w w' := by
  have hp' : (p : Int) ≤ 255 := by omega
  have hlx := Hx.out.1
  have hly := Hy.out.1
  have e := loseE_ok (xs := xs) (ys := ys) (at_ := 2) (many := 2) (by omega) (by omega) hox hoy
  have E := hid e
  have L := hid (show (loseR xs ys 2 2).length = 256 by rw [loseR_ok e]; exact loseL_len _ _ _ _)
  have RL := hid (loseR_ok e)
  have em : loseE (fill (xs[p]?.getD 0)) (fill (ys[p]?.getD 0)) 2 2 = 0 := loseE_ok (by omega) (by rw [fill_len, fill_len]; simp) (anyOdd_fill (odd_at hox p)) (anyOdd_fill (odd_at hoy p))
  have EM := hid em
  have LM := hid (show (loseR (fill (xs[p]?.getD 0)) (fill (ys[p]?.getD 0)) 2 2).length = 256 by rw [loseR_ok em]; exact loseL_len _ _ _ _)
  have AM : Hid (allB (loseR (fill (xs[p]?.getD 0)) (fill (ys[p]?.getD 0)) 2 2) (loseAt xs ys 2 2 p) = true) := hid (by
    rw [loseR_ok em]
    refine allB_yes (loseL_len _ _ _ _) fun j hj => ?_
    rw [loseL_at hj, each_at hj hly])
  have en : loseE xs ys 1 2 = 0 := loseE_ok (by omega) (by omega) hox hoy
  have EN := hid en
  have LN := hid (show (loseR xs ys 1 2).length = 256 by rw [loseR_ok en]; exact loseL_len _ _ _ _)
  have RN := hid (loseR_ok en)
  have v1 : loseAt xs ys 1 2 p = ((xs[p]?.getD 0) * 2 + ys[p]?.getD 0) / 3 := by
    unfold loseAt; rw [if_pos (by rw [hly]; omega)]; simp
  have v2 : loseAt xs ys 2 2 p = ((xs[p]?.getD 0) + (ys[p]?.getD 0) * 2) / 3 := by
    unfold loseAt; rw [if_pos (by rw [hly]; omega)]; simp
  have bx := anyOdd_at hox p
  have by_ := anyOdd_at hoy p
  have V : ∃ V1 V2 M1 M2 M3 M4 : Int, loseAt xs ys 1 2 p = V1 ∧ loseAt xs ys 2 2 p = V2 ∧ (-268435455 ≤ V1 ∧ V1 ≤ 268435455) ∧ (-268435455 ≤ V2 ∧ V2 ≤ 268435455) ∧
      (if V1 - xs[p]?.getD 0 < xs[p]?.getD 0 - V1 then xs[p]?.getD 0 - V1 else V1 - xs[p]?.getD 0) = M1 ∧ (if V2 - xs[p]?.getD 0 < xs[p]?.getD 0 - V2 then xs[p]?.getD 0 - V2 else V2 - xs[p]?.getD 0) = M2 ∧
      (if V2 - ys[p]?.getD 0 < ys[p]?.getD 0 - V2 then ys[p]?.getD 0 - V2 else V2 - ys[p]?.getD 0) = M3 ∧ (if V1 - ys[p]?.getD 0 < ys[p]?.getD 0 - V1 then ys[p]?.getD 0 - V1 else V1 - ys[p]?.getD 0) = M4 ∧
      (0 ≤ M1 ∧ M1 ≤ 1073741824) ∧ (0 ≤ M2 ∧ M2 ≤ 1073741824) ∧ (0 ≤ M3 ∧ M3 ≤ 1073741824) ∧ (0 ≤ M4 ∧ M4 ≤ 1073741824) ∧ decide (M1 ≤ M2 + 1) = true ∧ decide (M3 ≤ M4 + 1) = true := by
    rw [v1, v2]
    generalize xs[p]?.getD 0 = X at *
    generalize ys[p]?.getD 0 = Y at *
    refine ⟨_, _, _, _, _, _, rfl, rfl, by omega, by omega, rfl, rfl, rfl, rfl, ?_, ?_, ?_, ?_, decide_eq_true ?_, decide_eq_true ?_⟩
    · split <;> omega
    · split <;> omega
    · split <;> omega
    · split <;> omega
    · split <;> split <;> omega
    · split <;> split <;> omega
  have V := hid V
  have BX := hid bx
  have BY := hid by_
  clear en v1 v2 bx by_
  clear e em hlx hly hox hoy
  obtain ⟨ba, oa, rfl, _⟩ := Hx.out.addr (by omega)
  obtain ⟨bb, ob, rfl, _⟩ := Hy.out.addr (by omega)
  go_enter Try.func4, Try.ntmps4
  go_wp2_with fail
  refine (alive_any w).mono ?_
  rintro e w1 ⟨rfl, b1⟩
  have r1 := hid (lines_any _ _ 256 cap0 256 cap1 xs ys 2 2 w1 (Hx.out.below b1 (Nat.le_refl _)) (Hy.out.below b1 (Nat.le_refl _)))
  go_wp2_with fail
  refine r1.out.mono ?_
  rw [E.out]
  intro e w2 hr
  obtain ⟨A3, c3, rfl, _, hrl, _, hb2⟩ := hr.opens L.out
  rw [RL.out] at hrl
  have b2 := b1.trans (hb2.mono b1.size)
  clear r1 hr hb2 b1 E L RL
  obtain ⟨bl, ol, rfl, _⟩ := hrl.addr (by omega)
  have cx := (Hx.out.below b2 (Nat.le_refl _)).cellAt p hp
  go_wp2_with fail
  refine (filled_any _ w2).mono ?_
  intro e w3 hr
  obtain ⟨A4, c4, rfl, _, hrx, _, hb3⟩ := hr.opens (n := 256) (fill_len _)
  have b3 := b2.trans (hb3.mono b2.size)
  have hrl := hrl.below hb3 (Nat.le_refl _)
  clear hr hb3 b2 cx
  have cy := (Hy.out.below b3 (Nat.le_refl _)).cellAt p hp
  go_wp2_with fail
  refine (filled_any _ w3).mono ?_
  intro e w4 hr
  obtain ⟨A5, c5, rfl, _, hry, _, hb3⟩ := hr.opens (n := 256) (fill_len _)
  have b4 := b3.trans (hb3.mono b3.size)
  have hrl := hrl.below hb3 (Nat.le_refl _)
  have hrx := hrx.below hb3 (Nat.le_refl _)
  clear hr hb3 b3 cy
  go_wp2_with fail
  refine (lines_any A4 A5 256 c4 256 c5 _ _ 2 2 w4 hrx hry).mono ?_
  rw [EM.out]
  intro e w5 hr
  obtain ⟨A6, c6, rfl, _, hrm, _, hb3⟩ := hr.opens LM.out
  have b5 := b4.trans (hb3.mono b4.size)
  have hrl := hrl.below hb3 (Nat.le_refl _)
  have cl := hrl.cellAt p hp
  rw [loseL_at hp] at cl
  clear hr hb3 b4 hrx EM LM
  go_wp2_with fail
  refine (all_any A6 256 c6 _ _ w5 hrm (by omega)).mono ?_
  rintro e w' ⟨rfl, rfl⟩
  rw [AM.out]
  clear AM hrm
  go_wp2_with fail
  refine (lines_any _ _ 256 cap0 256 cap1 xs ys 1 2 w5 (Hx.out.below b5 (Nat.le_refl _)) (Hy.out.below b5 (Nat.le_refl _))).mono ?_
  rw [EN.out]
  intro e w6 hr
  obtain ⟨A7, c7, rfl, _, hrn, _, hb3⟩ := hr.opens LN.out
  rw [RN.out] at hrn
  have b6 := b5.trans (hb3.mono b5.size)
  have hrl := hrl.below hb3 (Nat.le_refl _)
  obtain ⟨bn, on, rfl, _⟩ := hrn.addr (by omega)
  have cn := hrn.cellAt p hp
  rw [loseL_at hp] at cn
  have cl := hrl.cellAt p hp
  rw [loseL_at hp] at cl
  have cx := fun q => ((Hx.out.below b6 (Nat.le_refl _)).drewN q).cellAt p hp
  have cy := fun q => ((Hy.out.below b6 (Nat.le_refl _)).drewN q).cellAt p hp
  obtain ⟨V1, V2, M1, M2, M3, M4, e1, e2, ⟨v1a, v1b⟩, ⟨v2a, v2b⟩, m1, m2, m3, m4, ⟨m1a, m1b⟩, ⟨m2a, m2b⟩, ⟨m3a, m3b⟩, ⟨m4a, m4b⟩, q1, q2⟩ := V.out
  obtain ⟨bxa, bxb⟩ := BX.out
  obtain ⟨bya, byb⟩ := BY.out
  rw [e2] at cl
  rw [e1] at cn
  clear hr hb3 b5 EN LN RN V BX BY e1 e2
  generalize xs[p]?.getD 0 = X at *
  generalize ys[p]?.getD 0 = Y at *
  go_wp2
  go_quiet (fail)
  go_wp2
  go_quiet (fail)
  go_wp2
  go_ret
  exact ⟨rfl, below_drewN b6 _⟩

set_option maxRecDepth 8000 in
set_option maxHeartbeats 1600000 in
theorem walk (a0 : Option Addr) (len0 cap0 : Nat) (z0 : List Int) (a1 : Option Addr) (len1 cap1 : Nat) (z1 : List Int) (a2 : Int) (a3 : Int) (a4 : Int) (w : World) (w0 : IsRow .i64 w a0 len0 cap0 z0) (w1 : IsRow .i64 w a1 len1 cap1 z1) (w2 : (Lit.int .i64 a2).wf = true) (w3 : (Lit.int .i64 a3).wf = true) (w4 : (Lit.int .i64 a4).wf = true) :
    Calls Try.prog 4 #[.slice a0 len0 cap0, .slice a1 len1 cap1, .int .i64 a2, .int .i64 a3, .int .i64 a4] w fun e w' => e = .returned (.bool true) ∧ Below w.heap.size w w' := by
  have Hx := hid w0.rd
  have Hy := hid w1.rd
  have hm0 := w0.len.1
  have hm1 := w1.len.1
  unfold maxLen at hm0 hm1
  generalize z0.take len0 = xs at Hx
  generalize z1.take len1 = ys at Hy
  clear w0 w1 w2 w3 w4
  have H0 := hid (alive_any w)
  by_cases hbig : 1000 < len0
  · go_enter Try.func4, Try.ntmps4
    go_wp2_with fail
    refine H0.out.mono ?_
    rintro e w1 ⟨rfl, hb⟩
    go_wp2
    go_ret
    exact ⟨rfl, hb⟩
  by_cases hbig1 : 1000 < len1
  · go_enter Try.func4, Try.ntmps4
    go_wp2_with fail
    refine H0.out.mono ?_
    rintro e w1 ⟨rfl, hb⟩
    go_wp2
    go_ret
    exact ⟨rfl, hb⟩
  have hlx := Hx.out.1
  have hly := Hy.out.1
  have L : ∃ n, (loseR xs ys a2 a3).length = n := ⟨_, rfl⟩
  obtain ⟨n, L⟩ := L
  have L := hid L
  by_cases hbad : loseE xs ys a2 a3 ≠ 0 ∨ a4 < 0 ∨ 255 < a4
  · have hcs : (loseE xs ys a2 a3 != 0) = true ∨ ((loseE xs ys a2 a3 != 0) = false ∧ a4 < 0) ∨ ((loseE xs ys a2 a3 != 0) = false ∧ ¬ a4 < 0 ∧ 255 < a4) := by
      by_cases he : loseE xs ys a2 a3 = 0
      · rw [he]; simp; omega
      · left; simp; exact he
    clear hlx hly hbad
    rcases hcs with h | ⟨h, h'⟩ | ⟨h, h', h''⟩
    all_goals
      go_enter Try.func4, Try.ntmps4
      go_wp2_with fail
      refine H0.out.mono ?_
      rintro e w1 ⟨rfl, b1⟩
      clear H0
      have r1 := hid (lines_any a0 a1 len0 cap0 len1 cap1 xs ys a2 a3 w1 (Hx.out.below b1 (Nat.le_refl _)) (Hy.out.below b1 (Nat.le_refl _)))
      go_wp2_with fail
      refine r1.out.mono ?_
      intro e w2 hr
      obtain ⟨A3, c3, rfl, _, _, _, hb2⟩ := hr.opens L.out
      have b2 := b1.trans (hb2.mono b1.size)
      clear r1 hr hb2 b1
      generalize loseE xs ys a2 a3 = g at *
      go_wp2
      go_ret
      exact ⟨rfl, b2⟩
  have he : loseE xs ys a2 a3 = 0 := by omega
  obtain ⟨h1, h2, h3, hl0, hl1, hox, hoy⟩ := loseE_zero he
  obtain rfl : len0 = 256 := by omega
  obtain ⟨p, rfl⟩ : ∃ p : Nat, a4 = p := Int.eq_ofNat_of_zero_le (by omega)
  have hp : p < 256 := by omega
  clear he H0 L
  rcases (show len1 = 256 ∨ len1 = 0 by omega) with rfl | rfl
  · by_cases hm : 2 < a3
    · exact each_far256 a0 a1 cap0 cap1 xs ys a2 a3 p w Hx Hy hp h1 h2 h3 hox hoy hm
    · by_cases hm2 : a3 < 2
      · exact each_one a0 a1 cap0 cap1 xs ys a2 a3 p w Hx Hy hp h1 h2 h3 hox hoy hm2
      · obtain rfl : a3 = 2 := by omega
        rcases (show a2 = 1 ∨ a2 = 2 by omega) with rfl | rfl
        · exact each_two1 a0 a1 cap0 cap1 xs ys p w Hx Hy hp h1 h2 h3 hox hoy
        · exact each_two2 a0 a1 cap0 cap1 xs ys p w Hx Hy hp h1 h2 h3 hox hoy
  · by_cases hm : 2 < a3
    · exact each_far0 a0 a1 cap0 cap1 xs ys a2 a3 p w Hx Hy hp h1 h2 h3 hox hoy hm
    · exact each_near0 a0 a1 cap0 cap1 xs ys a2 a3 p w Hx Hy hp h1 h2 h3 hox hoy (by omega)

/-! ### THE ROW's STEP: WRITTEN OUT: LEAVE IT -/
set_option maxRecDepth 100000 in
theorem lifted (os : Os) (started : os.Started) (H : Type) (enc : TypeId × Value → H) :
    ReturnsInHanded {} Try.checked os 4 .any (Rows.loseEachSpec.pre6 enc Try.prog Try.f4 Rows.loseEachRow.domain false) (Rows.loseEachSpec.post enc Try.prog Try.f4 false true false false) := by
  refine returnsInHanded_of_change (C := Try.checked) own started (by kernel_rfl) Try.func4
    (ChangeSpec.witness6 (enc := enc) (C := Try.checked) false ⟨#[], #[.slice none 0 0, .slice none 0 0, .int .i64 0, .int .i64 0, .int .i64 0], []⟩ 8 (by kernel_rfl) (by kernel_rfl) (by kernel_rfl) (by kernel_rfl)) ?_
  intro W base args ds gs before hval0 hW hcnd _
  have hval : ∀ (j : Nat) t v, Try.f4.params[j]? = some t → args[j]? = some v → Value.okWide Try.prog W .any base t v := hval0
  have hW' := hW
  obtain ⟨p, q, hA0, hV, rfl, hfz, hnd⟩ := hW
  have hA : DataW.TrodAll enc Try.prog W 0 (fun _ => true) true Try.f4.params.toList args.toList ds p := hA0
  rw [Try.params4] at hA hval
  obtain ⟨v0, vs0, d0, ds0, p0, q0, hargs, rfl, rfl, h0, r0⟩ := trodAll_cons hA
  obtain ⟨v1, vs1, d1, ds1, p1, q1, rfl, rfl, rfl, h1, r1⟩ := trodAll_cons r0
  obtain ⟨v2, vs2, d2, ds2, p2, q2, rfl, rfl, rfl, h2, r2⟩ := trodAll_cons r1
  obtain ⟨v3, vs3, d3, ds3, p3, q3, rfl, rfl, rfl, h3, r3⟩ := trodAll_cons r2
  obtain ⟨v4, vs4, d4, ds4, p4, q4, rfl, rfl, rfl, h4, r4⟩ := trodAll_cons r3
  obtain ⟨rfl, rfl, rfl⟩ := trodAll_nil r4
  obtain rfl : args = #[v0, v1, v2, v3, v4] := by cases args; simp_all
  obtain ⟨rfl, rfl⟩ := trodVars_none hV
  obtain ⟨a0, len0, cap0, rfl⟩ := okWide_slice Try.underlying22 (hval 0 22 v0 rfl rfl)
  have k0 := h0
  have lt0 : ∀ x ∈ p0, x.block < W.heap.size := by obtain ⟨m, hm⟩ := k0; exact DataW.trod_lt m _ _ _ hm
  obtain ⟨z0, w0⟩ : ∃ zs, IsRow .i64 W a0 len0 cap0 zs := by
    obtain ⟨fuel, hf⟩ := h0
    rcases open_ints Try.underlying22 Try.underlying3 (by kernel_rfl) hf with ⟨hcs, _⟩ | ⟨x, l, c, zs, hcs, _, hl, hm, hz, _, hcell, hwz⟩
    · simp [Value.cells] at hcs
      obtain ⟨rfl, rfl, rfl⟩ := hcs
      exact ⟨[], .inl ⟨rfl, rfl, rfl, rfl⟩⟩
    · simp [Value.cells] at hcs
      obtain ⟨rfl, rfl, rfl⟩ := hcs
      exact ⟨zs, .inr ⟨_, rfl, hl, hm, by simpa using hz, hcell, hwz⟩⟩
  obtain ⟨a1, len1, cap1, rfl⟩ := okWide_slice Try.underlying22 (hval 1 22 v1 rfl rfl)
  have k1 := h1
  have lt1 : ∀ x ∈ p1, x.block < W.heap.size := by obtain ⟨m, hm⟩ := k1; exact DataW.trod_lt m _ _ _ hm
  obtain ⟨z1, w1⟩ : ∃ zs, IsRow .i64 W a1 len1 cap1 zs := by
    obtain ⟨fuel, hf⟩ := h1
    rcases open_ints Try.underlying22 Try.underlying3 (by kernel_rfl) hf with ⟨hcs, _⟩ | ⟨x, l, c, zs, hcs, _, hl, hm, hz, _, hcell, hwz⟩
    · simp [Value.cells] at hcs
      obtain ⟨rfl, rfl, rfl⟩ := hcs
      exact ⟨[], .inl ⟨rfl, rfl, rfl, rfl⟩⟩
    · simp [Value.cells] at hcs
      obtain ⟨rfl, rfl, rfl⟩ := hcs
      exact ⟨zs, .inr ⟨_, rfl, hl, hm, by simpa using hz, hcell, hwz⟩⟩
  obtain ⟨a2, rfl, rfl, rfl, w2⟩ := open_int Try.underlying3 (hval 2 3 v2 rfl rfl) h2
  obtain ⟨a3, rfl, rfl, rfl, w3⟩ := open_int Try.underlying3 (hval 3 3 v3 rfl rfl) h3
  obtain ⟨a4, rfl, rfl, rfl, w4⟩ := open_int Try.underlying3 (hval 4 3 v4 rfl rfl) h4
  clear hA0 hval0
  refine (walk a0 len0 cap0 z0 a1 len1 cap1 z1 a2 a3 a4 W w0 w1 w2 w3 w4).mono fun e W' ⟨he, bel⟩ => ?_
  subst he
  exact ⟨_, rfl, _, _, _, [], _, [], hW', trodAll_mk1 (shut_bool Try.underlying4 _), (trodAll_cons_mk (Below.trod laidOut (by kernel_rfl) (of_decide_eq_true (by kernel_rfl)) k0 bel lt0) (trodAll_cons_mk (Below.trod laidOut (by kernel_rfl) (of_decide_eq_true (by kernel_rfl)) k1 bel lt1) (trodAll_cons_mk (shut_int Try.underlying3 w2) (trodAll_cons_mk (shut_int Try.underlying3 w3) (trodAll_cons_mk (shut_int Try.underlying3 w4) trodAll_mk0))))), rfl, bel.frame _, fun h => by cases h⟩

theorem over : Rows.loseEachRow.holds Try.pinned (OpenSpec.ofChange Rows.loseEachSpec) :=
  OpenClaim.holds_of_wide 4 Try.f4 rfl rfl rfl rfl rfl rfl rfl ⟨rfl, rfl, rfl, rfl, rfl⟩ rfl rfl rfl rfl rfl (by kernel_rfl) Try.func4 (by kernel_rfl)
    (of_decide_eq_true (by kernel_rfl)) (by unfold Func.isWrapper; first | (rw [if_pos (by decide +kernel)]; kernel_rfl) | (rw [if_neg (by decide +kernel)]; exact ⟨rfl, rfl⟩))
    (fun os started H enc _ => lifted os started H enc)

/-- ████ THE STATEMENT ████ -/
theorem proved : Rows.LoseEachSaid := over
#print axioms proved
end Go.Proofs.Ytdcidpgabhbhbaa.loseEach
