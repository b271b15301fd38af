import Derived.Test.YtdcidpgabhbhbaaWa
import Derived.Test.YtdcidpgabhbhbaaTym
namespace Go.Proofs.Ytdcidpgabhbhbaa
set_option linter.unusedVariables false
set_option linter.unusedSimpArgs false
set_option maxRecDepth 10000
open Go Go.Pv

theorem mixed : Try.prog.follows .mixedOrders = true := by kernel_rfl
def far (x : Int) : Bool := decide (x < -268435455) || decide (268435455 < x)
def lim (x : Int) : Int := max (-268435455) (min x 268435455)
def dn (x : Int) : Int := (x + 1).fdiv 2
def idxOf (p : Int → Bool) (xs : List Int) : Int := match xs.findIdx? p with | some i => i | none => -1
theorem idx_no {p : Int → Bool} {xs : List Int} {i : Nat} (h : xs.length ≤ i) (h2 : ∀ j < i, p (xs[j]?.getD 0) = false) : idxOf p xs = -1 := by
  unfold idxOf
  rw [List.findIdx?_eq_none_iff.2]
  intro x hx
  obtain ⟨j, hj, rfl⟩ := List.getElem_of_mem hx
  have := h2 j (by omega)
  simpa [List.getElem?_eq_getElem hj] using this
theorem idx_yes {p : Int → Bool} {xs : List Int} {i : Nat} (h : i < xs.length) (h2 : ∀ j < i, p (xs[j]?.getD 0) = false) (h3 : p (xs[i]?.getD 0) = true) : idxOf p xs = i := by
  unfold idxOf
  have : xs.findIdx? p = some i := by
    rw [List.findIdx?_eq_some_iff_getElem]
    refine ⟨h, by simpa [List.getElem?_eq_getElem h] using h3, fun j hj => ?_⟩
    have := h2 j hj
    simpa [List.getElem?_eq_getElem (by omega : j < xs.length)] using this
  rw [this]
theorem idx_ge (p : Int → Bool) (xs : List Int) : (0 ≤ idxOf p xs) = (xs.any p = true) := by
  unfold idxOf
  cases h : xs.findIdx? p with
  | none =>
    rw [List.findIdx?_eq_none_iff] at h
    simp
    intro x hx
    have := h x hx
    simpa using this
  | some i =>
    rw [List.findIdx?_eq_some_iff_getElem] at h
    obtain ⟨hi, h1, _⟩ := h
    simp
    exact ⟨xs[i], List.getElem_mem hi, h1⟩
theorem lt_step {i : Nat} {q : Nat → Prop} (h : ∀ j < i, q j) (h2 : q i) : ∀ j < i + 1, q j := fun j hj => by
  rcases Nat.lt_succ_iff_lt_or_eq.1 hj with h3 | h3
  · exact h j h3
  · subst h3; exact h2
def asked (xs ys : List Int) : Int := if xs.length ≠ ys.length ∨ 256 < xs.length then 4 else if xs.any far || ys.any far then 2 else 0
theorem asked4 {xs ys : List Int} (h : xs.length ≠ ys.length ∨ 256 < xs.length) : asked xs ys = 4 := if_pos h
theorem asked2 {xs ys : List Int} {i : Nat} (h : i < xs.length) (h1 : xs.length = ys.length) (h2 : xs.length ≤ 256) (h3 : far (xs[i]?.getD 0) = true ∨ far (ys[i]?.getD 0) = true) : asked xs ys = 2 := by
  unfold asked
  rw [if_neg (by omega), if_pos]
  rw [List.getElem?_eq_getElem h, List.getElem?_eq_getElem (by omega : i < ys.length)] at h3
  simp only [Option.getD_some] at h3
  rw [Bool.or_eq_true, List.any_eq_true, List.any_eq_true]
  exact h3.imp (fun h3 => ⟨_, List.getElem_mem _, h3⟩) (fun h3 => ⟨_, List.getElem_mem _, h3⟩)
theorem asked0 {xs ys : List Int} {i : Nat} (h : xs.length ≤ i) (h1 : xs.length = ys.length) (h2 : xs.length ≤ 256) (h3 : ∀ j < i, far (xs[j]?.getD 0) = false ∧ far (ys[j]?.getD 0) = false) : asked xs ys = 0 := by
  unfold asked
  rw [if_neg (by omega), if_neg]
  rw [Bool.or_eq_true, List.any_eq_true, List.any_eq_true]
  rintro (⟨x, hx, hf⟩ | ⟨x, hx, hf⟩)
  · obtain ⟨j, hj, rfl⟩ := List.getElem_of_mem hx
    have := (h3 j (by omega)).1
    rw [List.getElem?_eq_getElem hj, Option.getD_some, hf] at this
    cases this
  · obtain ⟨j, hj, rfl⟩ := List.getElem_of_mem hx
    have := (h3 j (by omega)).2
    rw [List.getElem?_eq_getElem hj, Option.getD_some, hf] at this
    cases this
theorem asked2' {xs ys : List Int} (h1 : xs.length = ys.length) (h2 : xs.length ≤ 256) (h : xs.any far = true ∨ ys.any far = true) : asked xs ys = 2 := by
  unfold asked
  rw [if_neg (by omega), if_pos (by simpa using h)]
theorem asked0' {xs ys : List Int} (h1 : xs.length = ys.length) (h2 : xs.length ≤ 256) (h3 : xs.any far = false) (h4 : ys.any far = false) : asked xs ys = 0 := by
  unfold asked
  rw [if_neg (by omega), h3, h4]
  rfl
def row (F : Int → Int → Int) (xs ys : List Int) (i : Nat) : List Int := (List.range i).map fun j => F (xs[j]?.getD 0) (ys[j]?.getD 0)
theorem row_len (F : Int → Int → Int) (xs ys : List Int) (i : Nat) : (row F xs ys i).length = i := by simp [row]
theorem row_succ (F : Int → Int → Int) (xs ys : List Int) (i : Nat) : row F xs ys (i + 1) = row F xs ys i ++ [F (xs[i]?.getD 0) (ys[i]?.getD 0)] := by simp [row, List.range_succ]
def rowL (F : Int → Int → Int) : Int → Int → Int := fun a b => lim (F a b)
def mEach (F G : Int → Int → Int) (xs ys : List Int) : List Int × List Int × Int := if asked xs ys = 0 then (row (rowL F) xs ys xs.length, row (rowL G) xs ys xs.length, 0) else ([], [], asked xs ys)
def mAdd (a b : Int) : Int := IntKind.i64.wrap (a + b)
def mSub (a b : Int) : Int := IntKind.i64.wrap (a - b)
def rnd (x n : Int) : Int × Int := if x < -4611686018427387904 ∨ 4611686018427387904 < x ∨ n < 0 ∨ 62 < n then (0, 2) else if n = 0 then (x, 0) else
  (x.fdiv (2 ^ n.toNat) + x.fdiv (2 ^ (n - 1).toNat) % 2, 0)
def mHalf (F : Int → Int → Int) (a b : Int) : Int := (rnd (F a b) 1).1

theorem row_at (F : Int → Int → Int) (xs ys : List Int) {n i : Nat} (h : i < n) : (row F xs ys n)[i]?.getD 0 = F (xs[i]?.getD 0) (ys[i]?.getD 0) := by
  unfold row
  rw [List.getElem?_map, List.getElem?_range h]
  rfl
theorem asked_yes {xs ys : List Int} (h : asked xs ys = 0) : xs.length = ys.length ∧ xs.length ≤ 256 ∧ ∀ i < xs.length, (-268435455 ≤ xs[i]?.getD 0 ∧ xs[i]?.getD 0 ≤ 268435455) ∧ -268435455 ≤ ys[i]?.getD 0 ∧ ys[i]?.getD 0 ≤ 268435455 := by
  unfold asked at h
  by_cases h1 : xs.length ≠ ys.length ∨ 256 < xs.length
  · rw [if_pos h1] at h; cases h
  · rw [if_neg h1] at h
    by_cases h2 : (xs.any far || ys.any far) = true
    · rw [if_pos h2] at h; cases h
    · have h2 : (xs.any far || ys.any far) = false := by simpa using h2
      rw [Bool.or_eq_false_iff, List.any_eq_false, List.any_eq_false] at h2
      refine ⟨by omega, by omega, fun i hi => ?_⟩
      have hy : i < ys.length := by omega
      rw [List.getElem?_eq_getElem hi, List.getElem?_eq_getElem hy]
      have a1 := h2.1 _ (List.getElem_mem hi)
      have a2 := h2.2 _ (List.getElem_mem hy)
      simp [far] at a1 a2
      simp only [Option.getD_some]
      omega
theorem asked_mk {xs ys : List Int} (h1 : xs.length = ys.length) (h2 : xs.length ≤ 256) (h3 : ∀ i < xs.length, (-268435455 ≤ xs[i]?.getD 0 ∧ xs[i]?.getD 0 ≤ 268435455) ∧ -268435455 ≤ ys[i]?.getD 0 ∧ ys[i]?.getD 0 ≤ 268435455) : asked xs ys = 0 :=
  asked0 (Nat.le_refl _) h1 h2 fun j hj => by
    have := h3 j hj
    simp [far]
    omega
theorem asked_cases (xs ys : List Int) : asked xs ys = 4 ∨ asked xs ys = 2 ∨ asked xs ys = 0 := by
  unfold asked
  split
  · exact .inl rfl
  · split
    · exact .inr (.inl rfl)
    · exact .inr (.inr rfl)
theorem halfE {x : Int} (h : -4611686018427387904 ≤ x ∧ x ≤ 4611686018427387904) : (rnd x 1).1 = (x + 1) / 2 := by
  unfold rnd
  rw [if_neg (by omega), if_neg (by omega)]
  show x.fdiv 2 + x.fdiv 1 % 2 = _
  rw [Int.fdiv_eq_ediv_of_nonneg _ (by decide), Int.fdiv_eq_ediv_of_nonneg _ (by decide)]
  omega

theorem mid_plus_ok (a b : Int) : PCall Try.prog 31 [.int .i64 a, .int .i64 b] (.int .i64 (IntKind.i64.wrap (a + b))) := by
  refine pcall_body ty_ok Try.func31 rfl (by rfl) (by simp) ?_
  rw [Try.ntmps31]
  refine swp_seq fun K1 hK1 => ?_
  refine swp_region ty_ok ?_
  try simp (maxSteps := 1000000) [runs, gd, step1, need, evu, un, opnds, opv, ev, cst, cst1, cstL, getT, getH, putT, onL, nxt, argT, cellsOf, PV.one, thn, inBlk, fldP, ldP, ldC, live, Cells.len, Cells.get, Cells.w, sug, ldv, bin, ops2, sh2, binv, Tk.agg, stC, apC, rdS, apS, mvL, zp, argsP, idx, fillP, toInts, chunks, mkC, ixS, ixA, oidx, slP, sl0, mxF, bltn, frzA, frz, frzL, frz1, pur1, Cells.pur, PV.scal, scal1, runD, rdO, PV.ids, id1, zids, ety, Eff.on, cnd, minb, and1b, ifmax, ifmin, mxv, sugI, w0, w1, w2, wm1]
  repeat' (first | apply And.intro | intro _)
  any_goals (first | (refine hK1 _ ?_; clear hK1) | (first | omega | (simp only [IntKind.wrap_i64] at *; omega) | (simp_all; done) | (simp_all; omega)))
  refine swp_seq fun K2 hK2 => ?_
  refine swp_region ty_ok ?_
  try simp (maxSteps := 1000000) [runs, gd, step1, need, evu, un, opnds, opv, ev, cst, cst1, cstL, getT, getH, putT, onL, nxt, argT, cellsOf, PV.one, thn, inBlk, fldP, ldP, ldC, live, Cells.len, Cells.get, Cells.w, sug, ldv, bin, ops2, sh2, binv, Tk.agg, stC, apC, rdS, apS, mvL, zp, argsP, idx, fillP, toInts, chunks, mkC, ixS, ixA, oidx, slP, sl0, mxF, bltn, frzA, frz, frzL, frz1, pur1, Cells.pur, PV.scal, scal1, runD, rdO, PV.ids, id1, zids, ety, Eff.on, cnd, minb, and1b, ifmax, ifmin, mxv, sugI, w0, w1, w2, wm1]
  repeat' (first | apply And.intro | intro _)
  any_goals (first | (refine hK2 _ ?_; clear hK2) | (first | omega | (simp only [IntKind.wrap_i64] at *; omega) | (simp_all; done) | (simp_all; omega)))
  refine swp_ret ?_
  simp [runs, gd, step1, need, evu, un, opnds, opv, ev, cst, cst1, cstL, getT, getH, putT, onL, nxt, argT, cellsOf, PV.one, thn, inBlk, fldP, ldP, ldC, live, Cells.len, Cells.get, Cells.w, sug, ldv, bin, ops2, sh2, binv, Tk.agg, stC, apC, rdS, apS, mvL, zp, argsP, idx, fillP, toInts, chunks, mkC, ixS, ixA, oidx, slP, sl0, mxF, bltn, frzA, frz, frzL, frz1, pur1, Cells.pur, PV.scal, scal1, runD, rdO, PV.ids, id1, zids, ety, Eff.on, cnd, minb, and1b, ifmax, ifmin, mxv, sugI, w0, w1, w2, wm1, fnPost, Try.results31, resP, tupOf]

theorem mid_minus_ok (a b : Int) : PCall Try.prog 32 [.int .i64 a, .int .i64 b] (.int .i64 (IntKind.i64.wrap (a - b))) := by
  refine pcall_body ty_ok Try.func32 rfl (by rfl) (by simp) ?_
  rw [Try.ntmps32]
  refine swp_seq fun K1 hK1 => ?_
  refine swp_region ty_ok ?_
  try simp (maxSteps := 1000000) [runs, gd, step1, need, evu, un, opnds, opv, ev, cst, cst1, cstL, getT, getH, putT, onL, nxt, argT, cellsOf, PV.one, thn, inBlk, fldP, ldP, ldC, live, Cells.len, Cells.get, Cells.w, sug, ldv, bin, ops2, sh2, binv, Tk.agg, stC, apC, rdS, apS, mvL, zp, argsP, idx, fillP, toInts, chunks, mkC, ixS, ixA, oidx, slP, sl0, mxF, bltn, frzA, frz, frzL, frz1, pur1, Cells.pur, PV.scal, scal1, runD, rdO, PV.ids, id1, zids, ety, Eff.on, cnd, minb, and1b, ifmax, ifmin, mxv, sugI, w0, w1, w2, wm1]
  repeat' (first | apply And.intro | intro _)
  any_goals (first | (refine hK1 _ ?_; clear hK1) | (first | omega | (simp only [IntKind.wrap_i64] at *; omega) | (simp_all; done) | (simp_all; omega)))
  refine swp_seq fun K2 hK2 => ?_
  refine swp_region ty_ok ?_
  try simp (maxSteps := 1000000) [runs, gd, step1, need, evu, un, opnds, opv, ev, cst, cst1, cstL, getT, getH, putT, onL, nxt, argT, cellsOf, PV.one, thn, inBlk, fldP, ldP, ldC, live, Cells.len, Cells.get, Cells.w, sug, ldv, bin, ops2, sh2, binv, Tk.agg, stC, apC, rdS, apS, mvL, zp, argsP, idx, fillP, toInts, chunks, mkC, ixS, ixA, oidx, slP, sl0, mxF, bltn, frzA, frz, frzL, frz1, pur1, Cells.pur, PV.scal, scal1, runD, rdO, PV.ids, id1, zids, ety, Eff.on, cnd, minb, and1b, ifmax, ifmin, mxv, sugI, w0, w1, w2, wm1]
  repeat' (first | apply And.intro | intro _)
  any_goals (first | (refine hK2 _ ?_; clear hK2) | (first | omega | (simp only [IntKind.wrap_i64] at *; omega) | (simp_all; done) | (simp_all; omega)))
  refine swp_ret ?_
  simp [runs, gd, step1, need, evu, un, opnds, opv, ev, cst, cst1, cstL, getT, getH, putT, onL, nxt, argT, cellsOf, PV.one, thn, inBlk, fldP, ldP, ldC, live, Cells.len, Cells.get, Cells.w, sug, ldv, bin, ops2, sh2, binv, Tk.agg, stC, apC, rdS, apS, mvL, zp, argsP, idx, fillP, toInts, chunks, mkC, ixS, ixA, oidx, slP, sl0, mxF, bltn, frzA, frz, frzL, frz1, pur1, Cells.pur, PV.scal, scal1, runD, rdO, PV.ids, id1, zids, ety, Eff.on, cnd, minb, and1b, ifmax, ifmin, mxv, sugI, w0, w1, w2, wm1, fnPost, Try.results32, resP, tupOf]

theorem mid_odd_ok (a : Int) : PCall Try.prog 41 [.int .i64 a] (.bool (far a)) := by
  refine pcall_body ty_ok Try.func41 rfl (by rfl) (by simp) ?_
  rw [Try.ntmps41]
  refine swp_seq fun K1 hK1 => ?_
  refine swp_region ty_ok ?_
  try simp (maxSteps := 1000000) [runs, gd, step1, need, evu, un, opnds, opv, ev, cst, cst1, cstL, getT, getH, putT, onL, nxt, argT, cellsOf, PV.one, thn, inBlk, fldP, ldP, ldC, live, Cells.len, Cells.get, Cells.w, sug, ldv, bin, ops2, sh2, binv, Tk.agg, stC, apC, rdS, apS, mvL, zp, argsP, idx, fillP, toInts, chunks, mkC, ixS, ixA, oidx, slP, sl0, mxF, bltn, frzA, frz, frzL, frz1, pur1, Cells.pur, PV.scal, scal1, runD, rdO, PV.ids, id1, zids, ety, Eff.on, cnd, minb, and1b, ifmax, ifmin, mxv, sugI, w0, w1, w2, wm1]
  repeat' (first | apply And.intro | intro _)
  any_goals (first | (refine hK1 _ ?_; clear hK1) | (first | omega | (simp only [IntKind.wrap_i64] at *; omega) | (simp_all; done) | (simp_all; omega)))
  refine swp_seq fun K2 hK2 => ?_
  refine swp_region ty_ok ?_
  try simp (maxSteps := 1000000) [runs, gd, step1, need, evu, un, opnds, opv, ev, cst, cst1, cstL, getT, getH, putT, onL, nxt, argT, cellsOf, PV.one, thn, inBlk, fldP, ldP, ldC, live, Cells.len, Cells.get, Cells.w, sug, ldv, bin, ops2, sh2, binv, Tk.agg, stC, apC, rdS, apS, mvL, zp, argsP, idx, fillP, toInts, chunks, mkC, ixS, ixA, oidx, slP, sl0, mxF, bltn, frzA, frz, frzL, frz1, pur1, Cells.pur, PV.scal, scal1, runD, rdO, PV.ids, id1, zids, ety, Eff.on, cnd, minb, and1b, ifmax, ifmin, mxv, sugI, w0, w1, w2, wm1]
  repeat' (first | apply And.intro | intro _)
  any_goals (first | (refine hK2 _ ?_; clear hK2) | (first | omega | (simp only [IntKind.wrap_i64] at *; omega) | (simp_all; done) | (simp_all; omega)))
  refine swp_ret ?_
  simp [runs, gd, step1, need, evu, un, opnds, opv, ev, cst, cst1, cstL, getT, getH, putT, onL, nxt, argT, cellsOf, PV.one, thn, inBlk, fldP, ldP, ldC, live, Cells.len, Cells.get, Cells.w, sug, ldv, bin, ops2, sh2, binv, Tk.agg, stC, apC, rdS, apS, mvL, zp, argsP, idx, fillP, toInts, chunks, mkC, ixS, ixA, oidx, slP, sl0, mxF, bltn, frzA, frz, frzL, frz1, pur1, Cells.pur, PV.scal, scal1, runD, rdO, PV.ids, id1, zids, ety, Eff.on, cnd, minb, and1b, ifmax, ifmin, mxv, sugI, w0, w1, w2, wm1, fnPost, Try.results41, resP, tupOf, far]

theorem mid_each_1_ok (a : Int) : PCall Try.prog 42 [.int .i64 a] (.int .i64 (lim a)) := by
  refine pcall_body ty_ok Try.func42 rfl (by rfl) (by simp) ?_
  rw [Try.ntmps42]
  refine swp_seq fun K1 hK1 => ?_
  refine swp_region ty_ok ?_
  try simp (maxSteps := 1000000) [runs, gd, step1, need, evu, un, opnds, opv, ev, cst, cst1, cstL, getT, getH, putT, onL, nxt, argT, cellsOf, PV.one, thn, inBlk, fldP, ldP, ldC, live, Cells.len, Cells.get, Cells.w, sug, ldv, bin, ops2, sh2, binv, Tk.agg, stC, apC, rdS, apS, mvL, zp, argsP, idx, fillP, toInts, chunks, mkC, ixS, ixA, oidx, slP, sl0, mxF, bltn, frzA, frz, frzL, frz1, pur1, Cells.pur, PV.scal, scal1, runD, rdO, PV.ids, id1, zids, ety, Eff.on, cnd, minb, and1b, ifmax, ifmin, mxv, sugI, w0, w1, w2, wm1]
  repeat' (first | apply And.intro | intro _)
  any_goals (first | (refine hK1 _ ?_; clear hK1) | (first | omega | (simp only [IntKind.wrap_i64] at *; omega) | (simp_all; done) | (simp_all; omega)))
  refine swp_seq fun K2 hK2 => ?_
  refine swp_region ty_ok ?_
  try simp (maxSteps := 1000000) [runs, gd, step1, need, evu, un, opnds, opv, ev, cst, cst1, cstL, getT, getH, putT, onL, nxt, argT, cellsOf, PV.one, thn, inBlk, fldP, ldP, ldC, live, Cells.len, Cells.get, Cells.w, sug, ldv, bin, ops2, sh2, binv, Tk.agg, stC, apC, rdS, apS, mvL, zp, argsP, idx, fillP, toInts, chunks, mkC, ixS, ixA, oidx, slP, sl0, mxF, bltn, frzA, frz, frzL, frz1, pur1, Cells.pur, PV.scal, scal1, runD, rdO, PV.ids, id1, zids, ety, Eff.on, cnd, minb, and1b, ifmax, ifmin, mxv, sugI, w0, w1, w2, wm1]
  repeat' (first | apply And.intro | intro _)
  any_goals (first | (refine hK2 _ ?_; clear hK2) | (first | omega | (simp only [IntKind.wrap_i64] at *; omega) | (simp_all; done) | (simp_all; omega)))
  refine swp_ret ?_
  simp [runs, gd, step1, need, evu, un, opnds, opv, ev, cst, cst1, cstL, getT, getH, putT, onL, nxt, argT, cellsOf, PV.one, thn, inBlk, fldP, ldP, ldC, live, Cells.len, Cells.get, Cells.w, sug, ldv, bin, ops2, sh2, binv, Tk.agg, stC, apC, rdS, apS, mvL, zp, argsP, idx, fillP, toInts, chunks, mkC, ixS, ixA, oidx, slP, sl0, mxF, bltn, frzA, frz, frzL, frz1, pur1, Cells.pur, PV.scal, scal1, runD, rdO, PV.ids, id1, zids, ety, Eff.on, cnd, minb, and1b, ifmax, ifmin, mxv, sugI, w0, w1, w2, wm1, fnPost, Try.results42, resP, tupOf]
  unfold lim; omega

theorem reedpiperef17_kept_ok (a : Int) : PCall Try.prog 45 [.int .i64 a] (.int .i64 (lim a)) := by
  refine pcall_body ty_ok Try.func45 rfl (by rfl) (by simp) ?_
  rw [Try.ntmps45]
  refine swp_seq fun K1 hK1 => ?_
  refine swp_region ty_ok ?_
  try simp (maxSteps := 1000000) [runs, gd, step1, need, evu, un, opnds, opv, ev, cst, cst1, cstL, getT, getH, putT, onL, nxt, argT, cellsOf, PV.one, thn, inBlk, fldP, ldP, ldC, live, Cells.len, Cells.get, Cells.w, sug, ldv, bin, ops2, sh2, binv, Tk.agg, stC, apC, rdS, apS, mvL, zp, argsP, idx, fillP, toInts, chunks, mkC, ixS, ixA, oidx, slP, sl0, mxF, bltn, frzA, frz, frzL, frz1, pur1, Cells.pur, PV.scal, scal1, runD, rdO, PV.ids, id1, zids, ety, Eff.on, cnd, minb, and1b, ifmax, ifmin, mxv, sugI, w0, w1, w2, wm1]
  repeat' (first | apply And.intro | intro _)
  any_goals (first | (refine hK1 _ ?_; clear hK1) | (first | omega | (simp only [IntKind.wrap_i64] at *; omega) | (simp_all; done) | (simp_all; omega)))
  refine swp_seq fun K2 hK2 => ?_
  refine swp_region ty_ok ?_
  try simp (maxSteps := 1000000) [runs, gd, step1, need, evu, un, opnds, opv, ev, cst, cst1, cstL, getT, getH, putT, onL, nxt, argT, cellsOf, PV.one, thn, inBlk, fldP, ldP, ldC, live, Cells.len, Cells.get, Cells.w, sug, ldv, bin, ops2, sh2, binv, Tk.agg, stC, apC, rdS, apS, mvL, zp, argsP, idx, fillP, toInts, chunks, mkC, ixS, ixA, oidx, slP, sl0, mxF, bltn, frzA, frz, frzL, frz1, pur1, Cells.pur, PV.scal, scal1, runD, rdO, PV.ids, id1, zids, ety, Eff.on, cnd, minb, and1b, ifmax, ifmin, mxv, sugI, w0, w1, w2, wm1]
  repeat' (first | apply And.intro | intro _)
  any_goals (first | (refine hK2 _ ?_; clear hK2) | (first | omega | (simp only [IntKind.wrap_i64] at *; omega) | (simp_all; done) | (simp_all; omega)))
  refine swp_ret ?_
  simp [runs, gd, step1, need, evu, un, opnds, opv, ev, cst, cst1, cstL, getT, getH, putT, onL, nxt, argT, cellsOf, PV.one, thn, inBlk, fldP, ldP, ldC, live, Cells.len, Cells.get, Cells.w, sug, ldv, bin, ops2, sh2, binv, Tk.agg, stC, apC, rdS, apS, mvL, zp, argsP, idx, fillP, toInts, chunks, mkC, ixS, ixA, oidx, slP, sl0, mxF, bltn, frzA, frz, frzL, frz1, pur1, Cells.pur, PV.scal, scal1, runD, rdO, PV.ids, id1, zids, ety, Eff.on, cnd, minb, and1b, ifmax, ifmin, mxv, sugI, w0, w1, w2, wm1, fnPost, Try.results45, resP, tupOf]
  unfold lim; omega

theorem fix_Round_ok (x n : Int) : PCall Try.prog 44 [.int .i64 x, .int .i64 n] (.tup [.int .i64 (rnd x n).1, .int .i64 (rnd x n).2]) := by
  refine pcall_body ty_ok Try.func44 rfl (by rfl) (by simp) ?_
  rw [Try.ntmps44]
  refine swp_seq fun K1 hK1 => ?_
  refine swp_region ty_ok ?_
  try simp (maxSteps := 1000000) [runs, gd, step1, need, evu, un, opnds, opv, ev, cst, cst1, cstL, getT, getH, putT, onL, nxt, argT, cellsOf, PV.one, thn, inBlk, fldP, ldP, ldC, live, Cells.len, Cells.get, Cells.w, sug, ldv, bin, ops2, sh2, binv, Tk.agg, stC, apC, rdS, apS, mvL, zp, argsP, idx, fillP, toInts, chunks, mkC, ixS, ixA, oidx, slP, sl0, mxF, bltn, frzA, frz, frzL, frz1, pur1, Cells.pur, PV.scal, scal1, runD, rdO, PV.ids, id1, zids, ety, Eff.on, cnd, minb, and1b, ifmax, ifmin, mxv, sugI, w0, w1, w2, wm1]
  repeat' (first | apply And.intro | intro _)
  any_goals (first | (refine hK1 _ ?_; clear hK1) | (first | omega | (simp only [IntKind.wrap_i64] at *; omega) | (simp_all; done) | (simp_all; omega)))
  refine swp_seq fun K2 hK2 => ?_
  refine swp_seq fun K3 hK3 => ?_
  refine swp_region ty_ok ?_
  refine runs_cut 7 fun R4 hR4 => ?_
  try simp (maxSteps := 1000000) [runs, gd, step1, need, evu, un, opnds, opv, ev, cst, cst1, cstL, getT, getH, putT, onL, nxt, argT, cellsOf, PV.one, thn, inBlk, fldP, ldP, ldC, live, Cells.len, Cells.get, Cells.w, sug, ldv, bin, ops2, sh2, binv, Tk.agg, stC, apC, rdS, apS, mvL, zp, argsP, idx, fillP, toInts, chunks, mkC, ixS, ixA, oidx, slP, sl0, mxF, bltn, frzA, frz, frzL, frz1, pur1, Cells.pur, PV.scal, scal1, runD, rdO, PV.ids, id1, zids, ety, Eff.on, cnd, minb, and1b, ifmax, ifmin, mxv, sugI, w0, w1, w2, wm1, List.take_succ_cons, List.take_zero, List.drop_succ_cons, List.drop_zero]
  repeat' (first | apply And.intro | intro _)
  any_goals (first | (refine hR4 _ ?_; clear hR4) | (first | omega | (simp only [IntKind.wrap_i64] at *; omega) | (simp_all; done) | (simp_all; omega)))
  try simp (maxSteps := 1000000) [runs, gd, step1, need, evu, un, opnds, opv, ev, cst, cst1, cstL, getT, getH, putT, onL, nxt, argT, cellsOf, PV.one, thn, inBlk, fldP, ldP, ldC, live, Cells.len, Cells.get, Cells.w, sug, ldv, bin, ops2, sh2, binv, Tk.agg, stC, apC, rdS, apS, mvL, zp, argsP, idx, fillP, toInts, chunks, mkC, ixS, ixA, oidx, slP, sl0, mxF, bltn, frzA, frz, frzL, frz1, pur1, Cells.pur, PV.scal, scal1, runD, rdO, PV.ids, id1, zids, ety, Eff.on, cnd, minb, and1b, ifmax, ifmin, mxv, sugI, w0, w1, w2, wm1, List.take_succ_cons, List.take_zero, List.drop_succ_cons, List.drop_zero]
  repeat' (first | apply And.intro | intro _)
  any_goals (first | (refine hK3 _ ?_; clear hK3) | (first | omega | (simp only [IntKind.wrap_i64] at *; omega) | (simp_all; done) | (simp_all; omega)))
  refine swp_if fun C5 hC5 => ?_
  try simp (maxSteps := 1000000) [runs, gd, step1, need, evu, un, opnds, opv, ev, cst, cst1, cstL, getT, getH, putT, onL, nxt, argT, cellsOf, PV.one, thn, inBlk, fldP, ldP, ldC, live, Cells.len, Cells.get, Cells.w, sug, ldv, bin, ops2, sh2, binv, Tk.agg, stC, apC, rdS, apS, mvL, zp, argsP, idx, fillP, toInts, chunks, mkC, ixS, ixA, oidx, slP, sl0, mxF, bltn, frzA, frz, frzL, frz1, pur1, Cells.pur, PV.scal, scal1, runD, rdO, PV.ids, id1, zids, ety, Eff.on, cnd, minb, and1b, ifmax, ifmin, mxv, sugI, w0, w1, w2, wm1]
  refine hC5 _ (fun hc5 => ?_) (fun hc5 => ?_)
  · clear hC5
    try simp at hc5
    refine swp_seq fun K6 hK6 => ?_
    refine swp_region ty_ok ?_
    try simp (maxSteps := 1000000) [runs, gd, step1, need, evu, un, opnds, opv, ev, cst, cst1, cstL, getT, getH, putT, onL, nxt, argT, cellsOf, PV.one, thn, inBlk, fldP, ldP, ldC, live, Cells.len, Cells.get, Cells.w, sug, ldv, bin, ops2, sh2, binv, Tk.agg, stC, apC, rdS, apS, mvL, zp, argsP, idx, fillP, toInts, chunks, mkC, ixS, ixA, oidx, slP, sl0, mxF, bltn, frzA, frz, frzL, frz1, pur1, Cells.pur, PV.scal, scal1, runD, rdO, PV.ids, id1, zids, ety, Eff.on, cnd, minb, and1b, ifmax, ifmin, mxv, sugI, w0, w1, w2, wm1]
    repeat' (first | apply And.intro | intro _)
    any_goals (first | (refine hK6 _ ?_; clear hK6) | (first | omega | (simp only [IntKind.wrap_i64] at *; omega) | (simp_all; done) | (simp_all; omega)))
    refine swp_ret ?_
    simp [runs, gd, step1, need, evu, un, opnds, opv, ev, cst, cst1, cstL, getT, getH, putT, onL, nxt, argT, cellsOf, PV.one, thn, inBlk, fldP, ldP, ldC, live, Cells.len, Cells.get, Cells.w, sug, ldv, bin, ops2, sh2, binv, Tk.agg, stC, apC, rdS, apS, mvL, zp, argsP, idx, fillP, toInts, chunks, mkC, ixS, ixA, oidx, slP, sl0, mxF, bltn, frzA, frz, frzL, frz1, pur1, Cells.pur, PV.scal, scal1, runD, rdO, PV.ids, id1, zids, ety, Eff.on, cnd, minb, and1b, ifmax, ifmin, mxv, sugI, w0, w1, w2, wm1, fnPost, Try.results44, resP, tupOf]
    rw [rnd, if_pos (by omega)]; simp
  · clear hC5
    try simp at hc5
    refine swp_skip ?_
    simp only [thn, inBlk]
    refine hK2 _ ?_; clear hK2
    refine swp_seq fun K7 hK7 => ?_
    refine swp_seq fun K8 hK8 => ?_
    refine swp_region ty_ok ?_
    try simp (maxSteps := 1000000) [runs, gd, step1, need, evu, un, opnds, opv, ev, cst, cst1, cstL, getT, getH, putT, onL, nxt, argT, cellsOf, PV.one, thn, inBlk, fldP, ldP, ldC, live, Cells.len, Cells.get, Cells.w, sug, ldv, bin, ops2, sh2, binv, Tk.agg, stC, apC, rdS, apS, mvL, zp, argsP, idx, fillP, toInts, chunks, mkC, ixS, ixA, oidx, slP, sl0, mxF, bltn, frzA, frz, frzL, frz1, pur1, Cells.pur, PV.scal, scal1, runD, rdO, PV.ids, id1, zids, ety, Eff.on, cnd, minb, and1b, ifmax, ifmin, mxv, sugI, w0, w1, w2, wm1]
    repeat' (first | apply And.intro | intro _)
    any_goals (first | (refine hK8 _ ?_; clear hK8) | (first | omega | (simp only [IntKind.wrap_i64] at *; omega) | (simp_all; done) | (simp_all; omega)))
    refine swp_if fun C9 hC9 => ?_
    try simp (maxSteps := 1000000) [runs, gd, step1, need, evu, un, opnds, opv, ev, cst, cst1, cstL, getT, getH, putT, onL, nxt, argT, cellsOf, PV.one, thn, inBlk, fldP, ldP, ldC, live, Cells.len, Cells.get, Cells.w, sug, ldv, bin, ops2, sh2, binv, Tk.agg, stC, apC, rdS, apS, mvL, zp, argsP, idx, fillP, toInts, chunks, mkC, ixS, ixA, oidx, slP, sl0, mxF, bltn, frzA, frz, frzL, frz1, pur1, Cells.pur, PV.scal, scal1, runD, rdO, PV.ids, id1, zids, ety, Eff.on, cnd, minb, and1b, ifmax, ifmin, mxv, sugI, w0, w1, w2, wm1]
    refine hC9 _ (fun hc9 => ?_) (fun hc9 => ?_)
    · clear hC9
      try simp at hc9
      refine swp_seq fun K10 hK10 => ?_
      refine swp_region ty_ok ?_
      try simp (maxSteps := 1000000) [runs, gd, step1, need, evu, un, opnds, opv, ev, cst, cst1, cstL, getT, getH, putT, onL, nxt, argT, cellsOf, PV.one, thn, inBlk, fldP, ldP, ldC, live, Cells.len, Cells.get, Cells.w, sug, ldv, bin, ops2, sh2, binv, Tk.agg, stC, apC, rdS, apS, mvL, zp, argsP, idx, fillP, toInts, chunks, mkC, ixS, ixA, oidx, slP, sl0, mxF, bltn, frzA, frz, frzL, frz1, pur1, Cells.pur, PV.scal, scal1, runD, rdO, PV.ids, id1, zids, ety, Eff.on, cnd, minb, and1b, ifmax, ifmin, mxv, sugI, w0, w1, w2, wm1]
      repeat' (first | apply And.intro | intro _)
      any_goals (first | (refine hK10 _ ?_; clear hK10) | (first | omega | (simp only [IntKind.wrap_i64] at *; omega) | (simp_all; done) | (simp_all; omega)))
      refine swp_ret ?_
      simp [runs, gd, step1, need, evu, un, opnds, opv, ev, cst, cst1, cstL, getT, getH, putT, onL, nxt, argT, cellsOf, PV.one, thn, inBlk, fldP, ldP, ldC, live, Cells.len, Cells.get, Cells.w, sug, ldv, bin, ops2, sh2, binv, Tk.agg, stC, apC, rdS, apS, mvL, zp, argsP, idx, fillP, toInts, chunks, mkC, ixS, ixA, oidx, slP, sl0, mxF, bltn, frzA, frz, frzL, frz1, pur1, Cells.pur, PV.scal, scal1, runD, rdO, PV.ids, id1, zids, ety, Eff.on, cnd, minb, and1b, ifmax, ifmin, mxv, sugI, w0, w1, w2, wm1, fnPost, Try.results44, resP, tupOf]
      rw [rnd, if_neg (by omega), if_pos (by omega)]; simp
    · clear hC9
      try simp at hc9
      refine swp_skip ?_
      simp only [thn, inBlk]
      refine hK7 _ ?_; clear hK7
      refine swp_seq fun K11 hK11 => ?_
      refine swp_draw ty_ok mixed (ms := [0, 0, 3, 0, 0, 16, 56, 120, 255, 511, 1023]) (by kernel_rfl) ?_
      try simp (maxSteps := 1000000) [runs, gd, step1, need, evu, un, opnds, opv, ev, cst, cst1, cstL, getT, getH, putT, onL, nxt, argT, cellsOf, PV.one, thn, inBlk, fldP, ldP, ldC, live, Cells.len, Cells.get, Cells.w, sug, ldv, bin, ops2, sh2, binv, Tk.agg, stC, apC, rdS, apS, mvL, zp, argsP, idx, fillP, toInts, chunks, mkC, ixS, ixA, oidx, slP, sl0, mxF, bltn, frzA, frz, frzL, frz1, pur1, Cells.pur, PV.scal, scal1, runD, rdO, PV.ids, id1, zids, ety, Eff.on, cnd, minb, and1b, ifmax, ifmin, mxv, sugI, w0, w1, w2, wm1]
      repeat' (first | apply And.intro | intro _)
      any_goals (first | kernel_rfl | (refine hK11 _ ?_; clear hK11) | (first | omega | (simp only [IntKind.wrap_i64] at *; omega) | (simp_all; done) | (simp_all; omega)))
      refine swp_ret ?_
      simp [runs, gd, step1, need, evu, un, opnds, opv, ev, cst, cst1, cstL, getT, getH, putT, onL, nxt, argT, cellsOf, PV.one, thn, inBlk, fldP, ldP, ldC, live, Cells.len, Cells.get, Cells.w, sug, ldv, bin, ops2, sh2, binv, Tk.agg, stC, apC, rdS, apS, mvL, zp, argsP, idx, fillP, toInts, chunks, mkC, ixS, ixA, oidx, slP, sl0, mxF, bltn, frzA, frz, frzL, frz1, pur1, Cells.pur, PV.scal, scal1, runD, rdO, PV.ids, id1, zids, ety, Eff.on, cnd, minb, and1b, ifmax, ifmin, mxv, sugI, w0, w1, w2, wm1, fnPost, Try.results44, resP, tupOf]
      rw [rnd, if_neg (by omega), if_neg (by omega)]
      have e1 : IntKind.i64.wrap (n - 1) = n - 1 := w64 (by omega)
      have e2 : min n.toNat 64 = n.toNat := by omega
      have e3 : min (n - 1).toNat 64 = (n - 1).toNat := by omega
      rw [e1, e2, e3]
      have b1 := fdiv_bd x (2 ^ n.toNat) (Int.pow_pos (by omega)) (by omega)
      generalize x.fdiv (2 ^ n.toNat) = y at b1 ⊢
      generalize x.fdiv (2 ^ (n - 1).toNat) = z
      simp only [and_true, IntKind.wrap_i64]
      omega

theorem reedpiperef03_Down_ok (x : Int) (h : -4611686018427387904 ≤ x ∧ x ≤ 4611686018427387904) : PCall Try.prog 46 [.int .i64 x, .int .i64 1] (.int .i64 (dn x)) := by
  refine pcall_body ty_ok Try.func46 rfl (by rfl) (by simp) ?_
  rw [Try.ntmps46]
  refine swp_seq fun K1 hK1 => ?_
  refine swp_region ty_ok ?_
  try simp (maxSteps := 1000000) [runs, gd, step1, need, evu, un, opnds, opv, ev, cst, cst1, cstL, getT, getH, putT, onL, nxt, argT, cellsOf, PV.one, thn, inBlk, fldP, ldP, ldC, live, Cells.len, Cells.get, Cells.w, sug, ldv, bin, ops2, sh2, binv, Tk.agg, stC, apC, rdS, apS, mvL, zp, argsP, idx, fillP, toInts, chunks, mkC, ixS, ixA, oidx, slP, sl0, mxF, bltn, frzA, frz, frzL, frz1, pur1, Cells.pur, PV.scal, scal1, runD, rdO, PV.ids, id1, zids, ety, Eff.on, cnd, minb, and1b, ifmax, ifmin, mxv, sugI, w0, w1, w2, wm1]
  repeat' (first | apply And.intro | intro _)
  any_goals (first | (refine hK1 _ ?_; clear hK1) | (first | omega | (simp only [IntKind.wrap_i64] at *; omega) | (simp_all; done) | (simp_all; omega)))
  refine swp_seq fun K2 hK2 => ?_
  refine swp_seq fun K3 hK3 => ?_
  refine swp_region ty_ok ?_
  try simp (maxSteps := 1000000) [runs, gd, step1, need, evu, un, opnds, opv, ev, cst, cst1, cstL, getT, getH, putT, onL, nxt, argT, cellsOf, PV.one, thn, inBlk, fldP, ldP, ldC, live, Cells.len, Cells.get, Cells.w, sug, ldv, bin, ops2, sh2, binv, Tk.agg, stC, apC, rdS, apS, mvL, zp, argsP, idx, fillP, toInts, chunks, mkC, ixS, ixA, oidx, slP, sl0, mxF, bltn, frzA, frz, frzL, frz1, pur1, Cells.pur, PV.scal, scal1, runD, rdO, PV.ids, id1, zids, ety, Eff.on, cnd, minb, and1b, ifmax, ifmin, mxv, sugI, w0, w1, w2, wm1]
  repeat' (first | apply And.intro | intro _)
  any_goals (first | (refine hK3 _ ?_; clear hK3) | (first | omega | (simp only [IntKind.wrap_i64] at *; omega) | (simp_all; done) | (simp_all; omega)))
  refine swp_if fun C4 hC4 => ?_
  try simp (maxSteps := 1000000) [runs, gd, step1, need, evu, un, opnds, opv, ev, cst, cst1, cstL, getT, getH, putT, onL, nxt, argT, cellsOf, PV.one, thn, inBlk, fldP, ldP, ldC, live, Cells.len, Cells.get, Cells.w, sug, ldv, bin, ops2, sh2, binv, Tk.agg, stC, apC, rdS, apS, mvL, zp, argsP, idx, fillP, toInts, chunks, mkC, ixS, ixA, oidx, slP, sl0, mxF, bltn, frzA, frz, frzL, frz1, pur1, Cells.pur, PV.scal, scal1, runD, rdO, PV.ids, id1, zids, ety, Eff.on, cnd, minb, and1b, ifmax, ifmin, mxv, sugI, w0, w1, w2, wm1]
  refine hC4 _ (fun hc4 => ?_) (fun hc4 => ?_)
  · exact absurd hc4 (by simp)
  · clear hC4
    try simp [w0, w1, minb] at hc4
    refine swp_skip ?_
    simp only [thn, inBlk]
    refine hK2 _ ?_; clear hK2
    refine swp_seq fun K5 hK5 => ?_
    refine swp_region ty_ok ?_
    try simp (maxSteps := 1000000) [runs, gd, step1, need, evu, un, opnds, opv, ev, cst, cst1, cstL, getT, getH, putT, onL, nxt, argT, cellsOf, PV.one, thn, inBlk, fldP, ldP, ldC, live, Cells.len, Cells.get, Cells.w, sug, ldv, bin, ops2, sh2, binv, Tk.agg, stC, apC, rdS, apS, mvL, zp, argsP, idx, fillP, toInts, chunks, mkC, ixS, ixA, oidx, slP, sl0, mxF, bltn, frzA, frz, frzL, frz1, pur1, Cells.pur, PV.scal, scal1, runD, rdO, PV.ids, id1, zids, ety, Eff.on, cnd, minb, and1b, ifmax, ifmin, mxv, sugI, w0, w1, w2, wm1]
    repeat' (first | apply And.intro | intro _)
    any_goals (first | (refine hK5 _ ?_; clear hK5) | (first | omega | (simp only [IntKind.wrap_i64] at *; omega) | (simp_all; done) | (simp_all; omega)))
    refine swp_seq fun K6 hK6 => ?_
    refine swp_region ty_ok ?_
    try simp (maxSteps := 1000000) [runs, gd, step1, need, evu, un, opnds, opv, ev, cst, cst1, cstL, getT, getH, putT, onL, nxt, argT, cellsOf, PV.one, thn, inBlk, fldP, ldP, ldC, live, Cells.len, Cells.get, Cells.w, sug, ldv, bin, ops2, sh2, binv, Tk.agg, stC, apC, rdS, apS, mvL, zp, argsP, idx, fillP, toInts, chunks, mkC, ixS, ixA, oidx, slP, sl0, mxF, bltn, frzA, frz, frzL, frz1, pur1, Cells.pur, PV.scal, scal1, runD, rdO, PV.ids, id1, zids, ety, Eff.on, cnd, minb, and1b, ifmax, ifmin, mxv, sugI, w0, w1, w2, wm1]
    repeat' (first | apply And.intro | intro _)
    any_goals (first | (refine hK6 _ ?_; clear hK6) | (first | omega | (simp only [IntKind.wrap_i64] at *; omega) | (simp_all; done) | (simp_all; omega)))
    refine swp_seq fun K7 hK7 => ?_
    refine swp_seq fun K8 hK8 => ?_
    refine swp_region ty_ok ?_
    try simp (maxSteps := 1000000) [runs, gd, step1, need, evu, un, opnds, opv, ev, cst, cst1, cstL, getT, getH, putT, onL, nxt, argT, cellsOf, PV.one, thn, inBlk, fldP, ldP, ldC, live, Cells.len, Cells.get, Cells.w, sug, ldv, bin, ops2, sh2, binv, Tk.agg, stC, apC, rdS, apS, mvL, zp, argsP, idx, fillP, toInts, chunks, mkC, ixS, ixA, oidx, slP, sl0, mxF, bltn, frzA, frz, frzL, frz1, pur1, Cells.pur, PV.scal, scal1, runD, rdO, PV.ids, id1, zids, ety, Eff.on, cnd, minb, and1b, ifmax, ifmin, mxv, sugI, w0, w1, w2, wm1]
    repeat' (first | apply And.intro | intro _)
    any_goals (first | (refine hK8 _ ?_; clear hK8) | (first | omega | (simp only [IntKind.wrap_i64] at *; omega) | (simp_all; done) | (simp_all; omega)))
    refine swp_if fun C9 hC9 => ?_
    try simp (maxSteps := 1000000) [runs, gd, step1, need, evu, un, opnds, opv, ev, cst, cst1, cstL, getT, getH, putT, onL, nxt, argT, cellsOf, PV.one, thn, inBlk, fldP, ldP, ldC, live, Cells.len, Cells.get, Cells.w, sug, ldv, bin, ops2, sh2, binv, Tk.agg, stC, apC, rdS, apS, mvL, zp, argsP, idx, fillP, toInts, chunks, mkC, ixS, ixA, oidx, slP, sl0, mxF, bltn, frzA, frz, frzL, frz1, pur1, Cells.pur, PV.scal, scal1, runD, rdO, PV.ids, id1, zids, ety, Eff.on, cnd, minb, and1b, ifmax, ifmin, mxv, sugI, w0, w1, w2, wm1]
    refine hC9 _ (fun hc9 => ?_) (fun hc9 => ?_)
    · clear hC9
      try simp [w0, w1, minb] at hc9
      refine swp_region ty_ok ?_
      try simp (maxSteps := 1000000) [runs, gd, step1, need, evu, un, opnds, opv, ev, cst, cst1, cstL, getT, getH, putT, onL, nxt, argT, cellsOf, PV.one, thn, inBlk, fldP, ldP, ldC, live, Cells.len, Cells.get, Cells.w, sug, ldv, bin, ops2, sh2, binv, Tk.agg, stC, apC, rdS, apS, mvL, zp, argsP, idx, fillP, toInts, chunks, mkC, ixS, ixA, oidx, slP, sl0, mxF, bltn, frzA, frz, frzL, frz1, pur1, Cells.pur, PV.scal, scal1, runD, rdO, PV.ids, id1, zids, ety, Eff.on, cnd, minb, and1b, ifmax, ifmin, mxv, sugI, w0, w1, w2, wm1]
      repeat' (first | apply And.intro | intro _)
      any_goals (first | (refine hK7 _ ?_; clear hK7) | (first | omega | (simp only [IntKind.wrap_i64] at *; omega) | (simp_all; done) | (simp_all; omega)))
      refine swp_seq fun K10 hK10 => ?_
      refine swp_region ty_ok ?_
      try simp (maxSteps := 1000000) [runs, gd, step1, need, evu, un, opnds, opv, ev, cst, cst1, cstL, getT, getH, putT, onL, nxt, argT, cellsOf, PV.one, thn, inBlk, fldP, ldP, ldC, live, Cells.len, Cells.get, Cells.w, sug, ldv, bin, ops2, sh2, binv, Tk.agg, stC, apC, rdS, apS, mvL, zp, argsP, idx, fillP, toInts, chunks, mkC, ixS, ixA, oidx, slP, sl0, mxF, bltn, frzA, frz, frzL, frz1, pur1, Cells.pur, PV.scal, scal1, runD, rdO, PV.ids, id1, zids, ety, Eff.on, cnd, minb, and1b, ifmax, ifmin, mxv, sugI, w0, w1, w2, wm1]
      repeat' (first | apply And.intro | intro _)
      any_goals (first | (refine hK10 _ ?_; clear hK10) | (first | omega | (simp only [IntKind.wrap_i64] at *; omega) | (simp_all; done) | (simp_all; omega)))
      refine swp_ret ?_
      simp [runs, gd, step1, need, evu, un, opnds, opv, ev, cst, cst1, cstL, getT, getH, putT, onL, nxt, argT, cellsOf, PV.one, thn, inBlk, fldP, ldP, ldC, live, Cells.len, Cells.get, Cells.w, sug, ldv, bin, ops2, sh2, binv, Tk.agg, stC, apC, rdS, apS, mvL, zp, argsP, idx, fillP, toInts, chunks, mkC, ixS, ixA, oidx, slP, sl0, mxF, bltn, frzA, frz, frzL, frz1, pur1, Cells.pur, PV.scal, scal1, runD, rdO, PV.ids, id1, zids, ety, Eff.on, cnd, minb, and1b, ifmax, ifmin, mxv, sugI, w0, w1, w2, wm1, fnPost, Try.results46, resP, tupOf]
      simp only [dn, IntKind.wrap_i64, Int.fdiv_eq_ediv_of_nonneg _ (by decide : (0 : Int) ≤ 2)] at *; omega
    · clear hC9
      try simp [w0, w1, minb] at hc9
      refine swp_skip ?_
      simp only [thn, inBlk]
      refine hK7 _ ?_; clear hK7
      refine swp_seq fun K11 hK11 => ?_
      refine swp_region ty_ok ?_
      try simp (maxSteps := 1000000) [runs, gd, step1, need, evu, un, opnds, opv, ev, cst, cst1, cstL, getT, getH, putT, onL, nxt, argT, cellsOf, PV.one, thn, inBlk, fldP, ldP, ldC, live, Cells.len, Cells.get, Cells.w, sug, ldv, bin, ops2, sh2, binv, Tk.agg, stC, apC, rdS, apS, mvL, zp, argsP, idx, fillP, toInts, chunks, mkC, ixS, ixA, oidx, slP, sl0, mxF, bltn, frzA, frz, frzL, frz1, pur1, Cells.pur, PV.scal, scal1, runD, rdO, PV.ids, id1, zids, ety, Eff.on, cnd, minb, and1b, ifmax, ifmin, mxv, sugI, w0, w1, w2, wm1]
      repeat' (first | apply And.intro | intro _)
      any_goals (first | (refine hK11 _ ?_; clear hK11) | (first | omega | (simp only [IntKind.wrap_i64] at *; omega) | (simp_all; done) | (simp_all; omega)))
      refine swp_ret ?_
      simp [runs, gd, step1, need, evu, un, opnds, opv, ev, cst, cst1, cstL, getT, getH, putT, onL, nxt, argT, cellsOf, PV.one, thn, inBlk, fldP, ldP, ldC, live, Cells.len, Cells.get, Cells.w, sug, ldv, bin, ops2, sh2, binv, Tk.agg, stC, apC, rdS, apS, mvL, zp, argsP, idx, fillP, toInts, chunks, mkC, ixS, ixA, oidx, slP, sl0, mxF, bltn, frzA, frz, frzL, frz1, pur1, Cells.pur, PV.scal, scal1, runD, rdO, PV.ids, id1, zids, ety, Eff.on, cnd, minb, and1b, ifmax, ifmin, mxv, sugI, w0, w1, w2, wm1, fnPost, Try.results46, resP, tupOf]
      simp only [dn, IntKind.wrap_i64, Int.fdiv_eq_ediv_of_nonneg _ (by decide : (0 : Int) ≤ 2)] at *; omega

theorem reedpiperef11_Same_ok (xs ys : List Int) (hx : xs.length ≤ 140737488355328) : PCall Try.prog 21 [.ro (.ints .i64 xs), .ro (.ints .i64 ys)] (.bool (decide (xs = ys))) := by
  refine pcall_body ty_ok Try.func21 rfl (by rfl) (by simp) ?_
  rw [Try.ntmps21]
  refine swp_seq fun K1 hK1 => ?_
  refine swp_region ty_ok ?_
  try simp (maxSteps := 1000000) [runs, gd, step1, need, evu, un, opnds, opv, ev, cst, cst1, cstL, getT, getH, putT, onL, nxt, argT, cellsOf, PV.one, thn, inBlk, fldP, ldP, ldC, live, Cells.len, Cells.get, Cells.w, sug, ldv, bin, ops2, sh2, binv, Tk.agg, stC, apC, rdS, apS, mvL, zp, argsP, idx, fillP, toInts, chunks, mkC, ixS, ixA, oidx, slP, sl0, mxF, bltn, frzA, frz, frzL, frz1, pur1, Cells.pur, PV.scal, scal1, runD, rdO, PV.ids, id1, zids, ety, Eff.on, cnd, minb, and1b, ifmax, ifmin, mxv, sugI, w0, w1, w2, wm1]
  repeat' (first | apply And.intro | intro _)
  any_goals (first | (refine hK1 _ ?_; clear hK1) | (first | omega | (simp only [IntKind.wrap_i64] at *; omega) | (simp_all; done) | (simp_all; omega)))
  refine swp_seq fun K2 hK2 => ?_
  refine swp_seq fun K3 hK3 => ?_
  refine swp_region ty_ok ?_
  try simp (maxSteps := 1000000) [runs, gd, step1, need, evu, un, opnds, opv, ev, cst, cst1, cstL, getT, getH, putT, onL, nxt, argT, cellsOf, PV.one, thn, inBlk, fldP, ldP, ldC, live, Cells.len, Cells.get, Cells.w, sug, ldv, bin, ops2, sh2, binv, Tk.agg, stC, apC, rdS, apS, mvL, zp, argsP, idx, fillP, toInts, chunks, mkC, ixS, ixA, oidx, slP, sl0, mxF, bltn, frzA, frz, frzL, frz1, pur1, Cells.pur, PV.scal, scal1, runD, rdO, PV.ids, id1, zids, ety, Eff.on, cnd, minb, and1b, ifmax, ifmin, mxv, sugI, w0, w1, w2, wm1]
  repeat' (first | apply And.intro | intro _)
  any_goals (first | (refine hK3 _ ?_; clear hK3) | (first | omega | (simp only [IntKind.wrap_i64] at *; omega) | (simp_all; done) | (simp_all; omega)))
  refine swp_if fun C4 hC4 => ?_
  try simp (maxSteps := 1000000) [runs, gd, step1, need, evu, un, opnds, opv, ev, cst, cst1, cstL, getT, getH, putT, onL, nxt, argT, cellsOf, PV.one, thn, inBlk, fldP, ldP, ldC, live, Cells.len, Cells.get, Cells.w, sug, ldv, bin, ops2, sh2, binv, Tk.agg, stC, apC, rdS, apS, mvL, zp, argsP, idx, fillP, toInts, chunks, mkC, ixS, ixA, oidx, slP, sl0, mxF, bltn, frzA, frz, frzL, frz1, pur1, Cells.pur, PV.scal, scal1, runD, rdO, PV.ids, id1, zids, ety, Eff.on, cnd, minb, and1b, ifmax, ifmin, mxv, sugI, w0, w1, w2, wm1]
  refine hC4 _ (fun hc4 => ?_) (fun hc4 => ?_)
  · clear hC4
    try simp at hc4
    refine swp_seq fun K5 hK5 => ?_
    refine swp_region ty_ok ?_
    try simp (maxSteps := 1000000) [runs, gd, step1, need, evu, un, opnds, opv, ev, cst, cst1, cstL, getT, getH, putT, onL, nxt, argT, cellsOf, PV.one, thn, inBlk, fldP, ldP, ldC, live, Cells.len, Cells.get, Cells.w, sug, ldv, bin, ops2, sh2, binv, Tk.agg, stC, apC, rdS, apS, mvL, zp, argsP, idx, fillP, toInts, chunks, mkC, ixS, ixA, oidx, slP, sl0, mxF, bltn, frzA, frz, frzL, frz1, pur1, Cells.pur, PV.scal, scal1, runD, rdO, PV.ids, id1, zids, ety, Eff.on, cnd, minb, and1b, ifmax, ifmin, mxv, sugI, w0, w1, w2, wm1]
    repeat' (first | apply And.intro | intro _)
    any_goals (first | (refine hK5 _ ?_; clear hK5) | (first | omega | (simp only [IntKind.wrap_i64] at *; omega) | (simp_all; done) | (simp_all; omega)))
    refine swp_ret ?_
    simp [runs, gd, step1, need, evu, un, opnds, opv, ev, cst, cst1, cstL, getT, getH, putT, onL, nxt, argT, cellsOf, PV.one, thn, inBlk, fldP, ldP, ldC, live, Cells.len, Cells.get, Cells.w, sug, ldv, bin, ops2, sh2, binv, Tk.agg, stC, apC, rdS, apS, mvL, zp, argsP, idx, fillP, toInts, chunks, mkC, ixS, ixA, oidx, slP, sl0, mxF, bltn, frzA, frz, frzL, frz1, pur1, Cells.pur, PV.scal, scal1, runD, rdO, PV.ids, id1, zids, ety, Eff.on, cnd, minb, and1b, ifmax, ifmin, mxv, sugI, w0, w1, w2, wm1, fnPost, Try.results21, resP, tupOf]
    rintro rfl; omega
  · clear hC4
    try simp at hc4
    refine swp_skip ?_
    simp only [thn, inBlk]
    refine hK2 _ ?_; clear hK2
    refine swp_seq fun K6 hK6 => ?_
    refine swp_seq fun K7 hK7 => ?_
    refine swp_region ty_ok ?_
    try simp (maxSteps := 1000000) [runs, gd, step1, need, evu, un, opnds, opv, ev, cst, cst1, cstL, getT, getH, putT, onL, nxt, argT, cellsOf, PV.one, thn, inBlk, fldP, ldP, ldC, live, Cells.len, Cells.get, Cells.w, sug, ldv, bin, ops2, sh2, binv, Tk.agg, stC, apC, rdS, apS, mvL, zp, argsP, idx, fillP, toInts, chunks, mkC, ixS, ixA, oidx, slP, sl0, mxF, bltn, frzA, frz, frzL, frz1, pur1, Cells.pur, PV.scal, scal1, runD, rdO, PV.ids, id1, zids, ety, Eff.on, cnd, minb, and1b, ifmax, ifmin, mxv, sugI, w0, w1, w2, wm1]
    repeat' (first | apply And.intro | intro _)
    any_goals (first | (refine hK7 _ ?_; clear hK7) | (first | omega | (simp only [IntKind.wrap_i64] at *; omega) | (simp_all; done) | (simp_all; omega)))
    refine swp_block ?_
    refine swp_loop 0 (fun m_ s_ => ∃ (i : Nat), (i ≤ xs.length) ∧ (xs.length = ys.length) ∧ (xs.take i = ys.take i) ∧ s_ = ⟨[(0, .ro (.ints .i64 xs)), (1, .ro (.ints .i64 ys)), (5, .int .i64 (i : Nat))], [], 0⟩ ∧ m_ = xs.length - i) _ ⟨[(0, .ro (.ints .i64 xs)), (1, .ro (.ints .i64 ys)), (5, .int .i64 (0 : Nat))], [], 0⟩ ⟨by simp [getT, PV.lo, lo1], by simp [getH, Blk.lo, Cells.lo, lo1], rfl, by omega⟩ ⟨(0), by (first | omega | (simp only [IntKind.wrap_i64] at *; omega) | (simp_all; done) | (simp_all; omega)), by (first | omega | (simp only [IntKind.wrap_i64] at *; omega) | (simp_all; done) | (simp_all; omega)), by (first | omega | (simp only [IntKind.wrap_i64] at *; omega) | (simp_all; done) | (simp_all; omega)), rfl, rfl⟩ ?_
    rintro m_ s_ ⟨i, hL8_0, hL8_1, hL8_2, rfl, rfl⟩ KL8 hL8
    have hw : IntKind.i64.wrap ((i : Int) + 1) = (((i + 1 : Nat)) : Int) := by rw [IntKind.wrap_i64]; omega
    refine swp_seq fun K9 hK9 => ?_
    refine swp_seq fun K10 hK10 => ?_
    refine swp_region ty_ok ?_
    try simp (maxSteps := 1000000) [runs, gd, step1, need, evu, un, opnds, opv, ev, cst, cst1, cstL, getT, getH, putT, onL, nxt, argT, cellsOf, PV.one, thn, inBlk, fldP, ldP, ldC, live, Cells.len, Cells.get, Cells.w, sug, ldv, bin, ops2, sh2, binv, Tk.agg, stC, apC, rdS, apS, mvL, zp, argsP, idx, fillP, toInts, chunks, mkC, ixS, ixA, oidx, slP, sl0, mxF, bltn, frzA, frz, frzL, frz1, pur1, Cells.pur, PV.scal, scal1, runD, rdO, PV.ids, id1, zids, ety, Eff.on, cnd, minb, and1b, ifmax, ifmin, mxv, sugI, w0, w1, w2, wm1]
    repeat' (first | apply And.intro | intro _)
    any_goals (first | (refine hK10 _ ?_; clear hK10) | (first | omega | (simp only [IntKind.wrap_i64] at *; omega) | (simp_all; done) | (simp_all; omega)))
    refine swp_if fun C11 hC11 => ?_
    try simp (maxSteps := 1000000) [runs, gd, step1, need, evu, un, opnds, opv, ev, cst, cst1, cstL, getT, getH, putT, onL, nxt, argT, cellsOf, PV.one, thn, inBlk, fldP, ldP, ldC, live, Cells.len, Cells.get, Cells.w, sug, ldv, bin, ops2, sh2, binv, Tk.agg, stC, apC, rdS, apS, mvL, zp, argsP, idx, fillP, toInts, chunks, mkC, ixS, ixA, oidx, slP, sl0, mxF, bltn, frzA, frz, frzL, frz1, pur1, Cells.pur, PV.scal, scal1, runD, rdO, PV.ids, id1, zids, ety, Eff.on, cnd, minb, and1b, ifmax, ifmin, mxv, sugI, w0, w1, w2, wm1]
    refine hC11 _ (fun hc11 => ?_) (fun hc11 => ?_)
    · clear hC11
      try simp at hc11
      refine swp_skip ?_
      simp only [thn, inBlk]
      refine hK9 _ ?_; clear hK9
      refine swp_seq fun K12 hK12 => ?_
      refine swp_block ?_
      refine swp_seq fun K13 hK13 => ?_
      refine swp_draw ty_ok mixed (ms := [0, 0, 3, 7, 0, 0, 48, 112, 255]) (by kernel_rfl) ?_
      try simp (maxSteps := 1000000) [runs, gd, step1, need, evu, un, opnds, opv, ev, cst, cst1, cstL, getT, getH, putT, onL, nxt, argT, cellsOf, PV.one, thn, inBlk, fldP, ldP, ldC, live, Cells.len, Cells.get, Cells.w, sug, ldv, bin, ops2, sh2, binv, Tk.agg, stC, apC, rdS, apS, mvL, zp, argsP, idx, fillP, toInts, chunks, mkC, ixS, ixA, oidx, slP, sl0, mxF, bltn, frzA, frz, frzL, frz1, pur1, Cells.pur, PV.scal, scal1, runD, rdO, PV.ids, id1, zids, ety, Eff.on, cnd, minb, and1b, ifmax, ifmin, mxv, sugI, w0, w1, w2, wm1]
      repeat' (first | apply And.intro | intro _)
      any_goals (first | kernel_rfl | (refine hK13 _ ?_; clear hK13) | (first | omega | (simp only [IntKind.wrap_i64] at *; omega) | (simp_all; done) | (simp_all; omega)))
      refine swp_if fun C15 hC15 => ?_
      try simp (maxSteps := 1000000) [runs, gd, step1, need, evu, un, opnds, opv, ev, cst, cst1, cstL, getT, getH, putT, onL, nxt, argT, cellsOf, PV.one, thn, inBlk, fldP, ldP, ldC, live, Cells.len, Cells.get, Cells.w, sug, ldv, bin, ops2, sh2, binv, Tk.agg, stC, apC, rdS, apS, mvL, zp, argsP, idx, fillP, toInts, chunks, mkC, ixS, ixA, oidx, slP, sl0, mxF, bltn, frzA, frz, frzL, frz1, pur1, Cells.pur, PV.scal, scal1, runD, rdO, PV.ids, id1, zids, ety, Eff.on, cnd, minb, and1b, ifmax, ifmin, mxv, sugI, w0, w1, w2, wm1]
      refine hC15 _ (fun hc15 => ?_) (fun hc15 => ?_)
      · clear hC15
        try simp at hc15
        refine swp_seq fun K16 hK16 => ?_
        refine swp_region ty_ok ?_
        try simp (maxSteps := 1000000) [runs, gd, step1, need, evu, un, opnds, opv, ev, cst, cst1, cstL, getT, getH, putT, onL, nxt, argT, cellsOf, PV.one, thn, inBlk, fldP, ldP, ldC, live, Cells.len, Cells.get, Cells.w, sug, ldv, bin, ops2, sh2, binv, Tk.agg, stC, apC, rdS, apS, mvL, zp, argsP, idx, fillP, toInts, chunks, mkC, ixS, ixA, oidx, slP, sl0, mxF, bltn, frzA, frz, frzL, frz1, pur1, Cells.pur, PV.scal, scal1, runD, rdO, PV.ids, id1, zids, ety, Eff.on, cnd, minb, and1b, ifmax, ifmin, mxv, sugI, w0, w1, w2, wm1]
        repeat' (first | apply And.intro | intro _)
        any_goals (first | (refine hK16 _ ?_; clear hK16) | (first | omega | (simp only [IntKind.wrap_i64] at *; omega) | (simp_all; done) | (simp_all; omega)))
        refine swp_ret ?_
        simp [runs, gd, step1, need, evu, un, opnds, opv, ev, cst, cst1, cstL, getT, getH, putT, onL, nxt, argT, cellsOf, PV.one, thn, inBlk, fldP, ldP, ldC, live, Cells.len, Cells.get, Cells.w, sug, ldv, bin, ops2, sh2, binv, Tk.agg, stC, apC, rdS, apS, mvL, zp, argsP, idx, fillP, toInts, chunks, mkC, ixS, ixA, oidx, slP, sl0, mxF, bltn, frzA, frz, frzL, frz1, pur1, Cells.pur, PV.scal, scal1, runD, rdO, PV.ids, id1, zids, ety, Eff.on, cnd, minb, and1b, ifmax, ifmin, mxv, sugI, w0, w1, w2, wm1, fnPost, Try.results21, resP, tupOf]
        rintro rfl; simp_all
      · clear hC15
        try simp at hc15
        refine swp_skip ?_
        simp only [thn, inBlk]
        refine hK12 _ ?_; clear hK12
        refine swp_region ty_ok ?_
        try simp (maxSteps := 1000000) [runs, gd, step1, need, evu, un, opnds, opv, ev, cst, cst1, cstL, getT, getH, putT, onL, nxt, argT, cellsOf, PV.one, thn, inBlk, fldP, ldP, ldC, live, Cells.len, Cells.get, Cells.w, sug, ldv, bin, ops2, sh2, binv, Tk.agg, stC, apC, rdS, apS, mvL, zp, argsP, idx, fillP, toInts, chunks, mkC, ixS, ixA, oidx, slP, sl0, mxF, bltn, frzA, frz, frzL, frz1, pur1, Cells.pur, PV.scal, scal1, runD, rdO, PV.ids, id1, zids, ety, Eff.on, cnd, minb, and1b, ifmax, ifmin, mxv, sugI, w0, w1, w2, wm1]
        refine hL8 _ ⟨[(0, .ro (.ints .i64 xs)), (1, .ro (.ints .i64 ys)), (5, .int .i64 ((i + 1) : Nat))], [], 0⟩ _ ?_ ⟨(i + 1), by omega, by omega, by exact take_next (by omega) (by omega) (by assumption) (by assumption), rfl, rfl⟩ ⟨by simp [getT, PV.lo, lo1, hw], by simp [getH, Blk.lo, Cells.lo, lo1], rfl, by omega⟩
        omega
    · clear hC11
      try simp at hc11
      refine swp_exit ?_
      simp [thn, inBlk]
      refine hK6 _ ?_; clear hK6
      refine swp_seq fun K17 hK17 => ?_
      refine swp_region ty_ok ?_
      try simp (maxSteps := 1000000) [runs, gd, step1, need, evu, un, opnds, opv, ev, cst, cst1, cstL, getT, getH, putT, onL, nxt, argT, cellsOf, PV.one, thn, inBlk, fldP, ldP, ldC, live, Cells.len, Cells.get, Cells.w, sug, ldv, bin, ops2, sh2, binv, Tk.agg, stC, apC, rdS, apS, mvL, zp, argsP, idx, fillP, toInts, chunks, mkC, ixS, ixA, oidx, slP, sl0, mxF, bltn, frzA, frz, frzL, frz1, pur1, Cells.pur, PV.scal, scal1, runD, rdO, PV.ids, id1, zids, ety, Eff.on, cnd, minb, and1b, ifmax, ifmin, mxv, sugI, w0, w1, w2, wm1]
      repeat' (first | apply And.intro | intro _)
      any_goals (first | (refine hK17 _ ?_; clear hK17) | (first | omega | (simp only [IntKind.wrap_i64] at *; omega) | (simp_all; done) | (simp_all; omega)))
      refine swp_ret ?_
      simp [runs, gd, step1, need, evu, un, opnds, opv, ev, cst, cst1, cstL, getT, getH, putT, onL, nxt, argT, cellsOf, PV.one, thn, inBlk, fldP, ldP, ldC, live, Cells.len, Cells.get, Cells.w, sug, ldv, bin, ops2, sh2, binv, Tk.agg, stC, apC, rdS, apS, mvL, zp, argsP, idx, fillP, toInts, chunks, mkC, ixS, ixA, oidx, slP, sl0, mxF, bltn, frzA, frz, frzL, frz1, pur1, Cells.pur, PV.scal, scal1, runD, rdO, PV.ids, id1, zids, ety, Eff.on, cnd, minb, and1b, ifmax, ifmin, mxv, sugI, w0, w1, w2, wm1, fnPost, Try.results21, resP, tupOf]
      have hh := (by assumption : List.take _ xs = _); rw [List.take_of_length_le (by omega), List.take_of_length_le (by omega)] at hh; exact hh

theorem indexFunc_ok (xs : List Int) (g : Nat) (p : Int → Bool) (hg : ∀ a, PCall Try.prog g [.int .i64 a] (.bool (p a))) (hx : xs.length ≤ 140737488355328) : PCall Try.prog 40 [.ro (.ints .i64 xs), .fn g []] (.int .i64 (idxOf p xs)) := by
  refine pcall_body ty_ok Try.func40 rfl (by rfl) (by simp) ?_
  rw [Try.ntmps40]
  refine swp_seq fun K1 hK1 => ?_
  refine swp_region ty_ok ?_
  try simp (maxSteps := 1000000) [runs, gd, step1, need, evu, un, opnds, opv, ev, cst, cst1, cstL, getT, getH, putT, onL, nxt, argT, cellsOf, PV.one, thn, inBlk, fldP, ldP, ldC, live, Cells.len, Cells.get, Cells.w, sug, ldv, bin, ops2, sh2, binv, Tk.agg, stC, apC, rdS, apS, mvL, zp, argsP, idx, fillP, toInts, chunks, mkC, ixS, ixA, oidx, slP, sl0, mxF, bltn, frzA, frz, frzL, frz1, pur1, Cells.pur, PV.scal, scal1, runD, rdO, PV.ids, id1, zids, ety, Eff.on, cnd, minb, and1b, ifmax, ifmin, mxv, sugI, w0, w1, w2, wm1]
  repeat' (first | apply And.intro | intro _)
  any_goals (first | (refine hK1 _ ?_; clear hK1) | (first | omega | (simp only [IntKind.wrap_i64] at *; omega) | (simp_all; done) | (simp_all; omega)))
  refine swp_seq fun K2 hK2 => ?_
  refine swp_seq fun K3 hK3 => ?_
  refine swp_region ty_ok ?_
  try simp (maxSteps := 1000000) [runs, gd, step1, need, evu, un, opnds, opv, ev, cst, cst1, cstL, getT, getH, putT, onL, nxt, argT, cellsOf, PV.one, thn, inBlk, fldP, ldP, ldC, live, Cells.len, Cells.get, Cells.w, sug, ldv, bin, ops2, sh2, binv, Tk.agg, stC, apC, rdS, apS, mvL, zp, argsP, idx, fillP, toInts, chunks, mkC, ixS, ixA, oidx, slP, sl0, mxF, bltn, frzA, frz, frzL, frz1, pur1, Cells.pur, PV.scal, scal1, runD, rdO, PV.ids, id1, zids, ety, Eff.on, cnd, minb, and1b, ifmax, ifmin, mxv, sugI, w0, w1, w2, wm1]
  repeat' (first | apply And.intro | intro _)
  any_goals (first | (refine hK3 _ ?_; clear hK3) | (first | omega | (simp only [IntKind.wrap_i64] at *; omega) | (simp_all; done) | (simp_all; omega)))
  refine swp_block ?_
  refine swp_loop 0 (fun m_ s_ => ∃ (i : Nat), (i ≤ xs.length) ∧ (∀ j < i, p (xs[j]?.getD 0) = false) ∧ s_ = ⟨[(0, .ro (.ints .i64 xs)), (1, .fn g []), (7, .int .i64 (xs.length : Nat)), (8, .int .i64 (i : Nat))], [], 0⟩ ∧ m_ = xs.length - i) _ ⟨[(0, .ro (.ints .i64 xs)), (1, .fn g []), (7, .int .i64 (xs.length : Nat)), (8, .int .i64 (0 : Nat))], [], 0⟩ ⟨by simp [getT, PV.lo, lo1], by simp [getH, Blk.lo, Cells.lo, lo1], rfl, by omega⟩ ⟨(0), by omega, by simp, rfl, rfl⟩ ?_
  rintro m_ s_ ⟨i, hL4_0, hL4_1, rfl, rfl⟩ KL4 hL4
  have hw : IntKind.i64.wrap ((i : Int) + 1) = (((i + 1 : Nat)) : Int) := wnext (by omega)
  refine swp_seq fun K5 hK5 => ?_
  refine swp_region ty_ok ?_
  try simp (maxSteps := 1000000) [runs, gd, step1, need, evu, un, opnds, opv, ev, cst, cst1, cstL, getT, getH, putT, onL, nxt, argT, cellsOf, PV.one, thn, inBlk, fldP, ldP, ldC, live, Cells.len, Cells.get, Cells.w, sug, ldv, bin, ops2, sh2, binv, Tk.agg, stC, apC, rdS, apS, mvL, zp, argsP, idx, fillP, toInts, chunks, mkC, ixS, ixA, oidx, slP, sl0, mxF, bltn, frzA, frz, frzL, frz1, pur1, Cells.pur, PV.scal, scal1, runD, rdO, PV.ids, id1, zids, ety, Eff.on, cnd, minb, and1b, ifmax, ifmin, mxv, sugI, w0, w1, w2, wm1]
  repeat' (first | apply And.intro | intro _)
  any_goals (first | (refine hK5 _ ?_; clear hK5) | (first | omega | (simp only [IntKind.wrap_i64] at *; omega) | (simp_all; done) | (simp_all; omega)))
  refine swp_seq fun K6 hK6 => ?_
  refine swp_if fun C7 hC7 => ?_
  try simp (maxSteps := 1000000) [runs, gd, step1, need, evu, un, opnds, opv, ev, cst, cst1, cstL, getT, getH, putT, onL, nxt, argT, cellsOf, PV.one, thn, inBlk, fldP, ldP, ldC, live, Cells.len, Cells.get, Cells.w, sug, ldv, bin, ops2, sh2, binv, Tk.agg, stC, apC, rdS, apS, mvL, zp, argsP, idx, fillP, toInts, chunks, mkC, ixS, ixA, oidx, slP, sl0, mxF, bltn, frzA, frz, frzL, frz1, pur1, Cells.pur, PV.scal, scal1, runD, rdO, PV.ids, id1, zids, ety, Eff.on, cnd, minb, and1b, ifmax, ifmin, mxv, sugI, w0, w1, w2, wm1]
  refine hC7 _ (fun hc7 => ?_) (fun hc7 => ?_)
  · clear hC7
    try simp at hc7
    refine swp_skip ?_
    simp only [thn, inBlk]
    refine hK6 _ ?_; clear hK6
    refine swp_seq fun K8 hK8 => ?_
    refine swp_block ?_
    refine swp_seq fun K9 hK9 => ?_
    refine swp_region ty_ok ?_
    try simp (maxSteps := 1000000) [runs, gd, step1, need, evu, un, opnds, opv, ev, cst, cst1, cstL, getT, getH, putT, onL, nxt, argT, cellsOf, PV.one, thn, inBlk, fldP, ldP, ldC, live, Cells.len, Cells.get, Cells.w, sug, ldv, bin, ops2, sh2, binv, Tk.agg, stC, apC, rdS, apS, mvL, zp, argsP, idx, fillP, toInts, chunks, mkC, ixS, ixA, oidx, slP, sl0, mxF, bltn, frzA, frz, frzL, frz1, pur1, Cells.pur, PV.scal, scal1, runD, rdO, PV.ids, id1, zids, ety, Eff.on, cnd, minb, and1b, ifmax, ifmin, mxv, sugI, w0, w1, w2, wm1]
    repeat' (first | apply And.intro | intro _)
    any_goals (first | (refine hK9 _ ?_; clear hK9) | (first | omega | (simp only [IntKind.wrap_i64] at *; omega) | (simp_all; done) | (simp_all; omega)))
    refine swp_seq fun K10 hK10 => ?_
    refine swp_region ty_ok ?_
    refine runs_cut 5 fun R11 hR11 => ?_
    try simp (maxSteps := 1000000) [runs, gd, step1, need, evu, un, opnds, opv, ev, cst, cst1, cstL, getT, getH, putT, onL, nxt, argT, cellsOf, PV.one, thn, inBlk, fldP, ldP, ldC, live, Cells.len, Cells.get, Cells.w, sug, ldv, bin, ops2, sh2, binv, Tk.agg, stC, apC, rdS, apS, mvL, zp, argsP, idx, fillP, toInts, chunks, mkC, ixS, ixA, oidx, slP, sl0, mxF, bltn, frzA, frz, frzL, frz1, pur1, Cells.pur, PV.scal, scal1, runD, rdO, PV.ids, id1, zids, ety, Eff.on, cnd, minb, and1b, ifmax, ifmin, mxv, sugI, w0, w1, w2, wm1, List.take_succ_cons, List.take_zero, List.drop_succ_cons, List.drop_zero]
    repeat' (first | apply And.intro | intro _)
    any_goals (first | (refine hR11 _ ?_; clear hR11) | (first | omega | (simp only [IntKind.wrap_i64] at *; omega) | (simp_all; done) | (simp_all; omega)))
    try simp (maxSteps := 1000000) [runs, gd, step1, need, evu, un, opnds, opv, ev, cst, cst1, cstL, getT, getH, putT, onL, nxt, argT, cellsOf, PV.one, thn, inBlk, fldP, ldP, ldC, live, Cells.len, Cells.get, Cells.w, sug, ldv, bin, ops2, sh2, binv, Tk.agg, stC, apC, rdS, apS, mvL, zp, argsP, idx, fillP, toInts, chunks, mkC, ixS, ixA, oidx, slP, sl0, mxF, bltn, frzA, frz, frzL, frz1, pur1, Cells.pur, PV.scal, scal1, runD, rdO, PV.ids, id1, zids, ety, Eff.on, cnd, minb, and1b, ifmax, ifmin, mxv, sugI, w0, w1, w2, wm1, List.take_succ_cons, List.take_zero, List.drop_succ_cons, List.drop_zero]
    refine .inl ⟨_, hg _, ?_⟩
    try simp (maxSteps := 1000000) [runs, gd, step1, need, evu, un, opnds, opv, ev, cst, cst1, cstL, getT, getH, putT, onL, nxt, argT, cellsOf, PV.one, thn, inBlk, fldP, ldP, ldC, live, Cells.len, Cells.get, Cells.w, sug, ldv, bin, ops2, sh2, binv, Tk.agg, stC, apC, rdS, apS, mvL, zp, argsP, idx, fillP, toInts, chunks, mkC, ixS, ixA, oidx, slP, sl0, mxF, bltn, frzA, frz, frzL, frz1, pur1, Cells.pur, PV.scal, scal1, runD, rdO, PV.ids, id1, zids, ety, Eff.on, cnd, minb, and1b, ifmax, ifmin, mxv, sugI, w0, w1, w2, wm1]
    repeat' (first | apply And.intro | intro _)
    any_goals (first | (refine hK10 _ ?_; clear hK10) | (first | omega | (simp only [IntKind.wrap_i64] at *; omega) | (simp_all; done) | (simp_all; omega)))
    refine swp_if fun C12 hC12 => ?_
    try simp (maxSteps := 1000000) [runs, gd, step1, need, evu, un, opnds, opv, ev, cst, cst1, cstL, getT, getH, putT, onL, nxt, argT, cellsOf, PV.one, thn, inBlk, fldP, ldP, ldC, live, Cells.len, Cells.get, Cells.w, sug, ldv, bin, ops2, sh2, binv, Tk.agg, stC, apC, rdS, apS, mvL, zp, argsP, idx, fillP, toInts, chunks, mkC, ixS, ixA, oidx, slP, sl0, mxF, bltn, frzA, frz, frzL, frz1, pur1, Cells.pur, PV.scal, scal1, runD, rdO, PV.ids, id1, zids, ety, Eff.on, cnd, minb, and1b, ifmax, ifmin, mxv, sugI, w0, w1, w2, wm1]
    refine hC12 _ (fun hc12 => ?_) (fun hc12 => ?_)
    · clear hC12
      try simp at hc12
      refine swp_seq fun K13 hK13 => ?_
      refine swp_region ty_ok ?_
      try simp (maxSteps := 1000000) [runs, gd, step1, need, evu, un, opnds, opv, ev, cst, cst1, cstL, getT, getH, putT, onL, nxt, argT, cellsOf, PV.one, thn, inBlk, fldP, ldP, ldC, live, Cells.len, Cells.get, Cells.w, sug, ldv, bin, ops2, sh2, binv, Tk.agg, stC, apC, rdS, apS, mvL, zp, argsP, idx, fillP, toInts, chunks, mkC, ixS, ixA, oidx, slP, sl0, mxF, bltn, frzA, frz, frzL, frz1, pur1, Cells.pur, PV.scal, scal1, runD, rdO, PV.ids, id1, zids, ety, Eff.on, cnd, minb, and1b, ifmax, ifmin, mxv, sugI, w0, w1, w2, wm1]
      repeat' (first | apply And.intro | intro _)
      any_goals (first | (refine hK13 _ ?_; clear hK13) | (first | omega | (simp only [IntKind.wrap_i64] at *; omega) | (simp_all; done) | (simp_all; omega)))
      refine swp_ret ?_
      simp [runs, gd, step1, need, evu, un, opnds, opv, ev, cst, cst1, cstL, getT, getH, putT, onL, nxt, argT, cellsOf, PV.one, thn, inBlk, fldP, ldP, ldC, live, Cells.len, Cells.get, Cells.w, sug, ldv, bin, ops2, sh2, binv, Tk.agg, stC, apC, rdS, apS, mvL, zp, argsP, idx, fillP, toInts, chunks, mkC, ixS, ixA, oidx, slP, sl0, mxF, bltn, frzA, frz, frzL, frz1, pur1, Cells.pur, PV.scal, scal1, runD, rdO, PV.ids, id1, zids, ety, Eff.on, cnd, minb, and1b, ifmax, ifmin, mxv, sugI, w0, w1, w2, wm1, fnPost, Try.results40, resP, tupOf]
      exact idx_yes (by assumption) (by assumption) (by assumption)
    · clear hC12
      try simp at hc12
      refine swp_skip ?_
      simp only [thn, inBlk]
      refine hK8 _ ?_; clear hK8
      refine swp_region ty_ok ?_
      try simp (maxSteps := 1000000) [runs, gd, step1, need, evu, un, opnds, opv, ev, cst, cst1, cstL, getT, getH, putT, onL, nxt, argT, cellsOf, PV.one, thn, inBlk, fldP, ldP, ldC, live, Cells.len, Cells.get, Cells.w, sug, ldv, bin, ops2, sh2, binv, Tk.agg, stC, apC, rdS, apS, mvL, zp, argsP, idx, fillP, toInts, chunks, mkC, ixS, ixA, oidx, slP, sl0, mxF, bltn, frzA, frz, frzL, frz1, pur1, Cells.pur, PV.scal, scal1, runD, rdO, PV.ids, id1, zids, ety, Eff.on, cnd, minb, and1b, ifmax, ifmin, mxv, sugI, w0, w1, w2, wm1]
      refine hL4 _ ⟨[(0, .ro (.ints .i64 xs)), (1, .fn g []), (7, .int .i64 (xs.length : Nat)), (8, .int .i64 ((i + 1) : Nat))], [], 0⟩ _ ?_ ⟨(i + 1), by omega, by exact lt_step (by assumption) (by assumption), rfl, rfl⟩ ⟨by simp [getT, PV.lo, lo1, hw], by simp [getH, Blk.lo, Cells.lo, lo1], rfl, by omega⟩
      omega
  · clear hC7
    try simp at hc7
    refine swp_exit ?_
    simp [thn, inBlk]
    refine hK2 _ ?_; clear hK2
    refine swp_seq fun K14 hK14 => ?_
    refine swp_region ty_ok ?_
    try simp (maxSteps := 1000000) [runs, gd, step1, need, evu, un, opnds, opv, ev, cst, cst1, cstL, getT, getH, putT, onL, nxt, argT, cellsOf, PV.one, thn, inBlk, fldP, ldP, ldC, live, Cells.len, Cells.get, Cells.w, sug, ldv, bin, ops2, sh2, binv, Tk.agg, stC, apC, rdS, apS, mvL, zp, argsP, idx, fillP, toInts, chunks, mkC, ixS, ixA, oidx, slP, sl0, mxF, bltn, frzA, frz, frzL, frz1, pur1, Cells.pur, PV.scal, scal1, runD, rdO, PV.ids, id1, zids, ety, Eff.on, cnd, minb, and1b, ifmax, ifmin, mxv, sugI, w0, w1, w2, wm1]
    repeat' (first | apply And.intro | intro _)
    any_goals (first | (refine hK14 _ ?_; clear hK14) | (first | omega | (simp only [IntKind.wrap_i64] at *; omega) | (simp_all; done) | (simp_all; omega)))
    refine swp_ret ?_
    simp [runs, gd, step1, need, evu, un, opnds, opv, ev, cst, cst1, cstL, getT, getH, putT, onL, nxt, argT, cellsOf, PV.one, thn, inBlk, fldP, ldP, ldC, live, Cells.len, Cells.get, Cells.w, sug, ldv, bin, ops2, sh2, binv, Tk.agg, stC, apC, rdS, apS, mvL, zp, argsP, idx, fillP, toInts, chunks, mkC, ixS, ixA, oidx, slP, sl0, mxF, bltn, frzA, frz, frzL, frz1, pur1, Cells.pur, PV.scal, scal1, runD, rdO, PV.ids, id1, zids, ety, Eff.on, cnd, minb, and1b, ifmax, ifmin, mxv, sugI, w0, w1, w2, wm1, fnPost, Try.results40, resP, tupOf]
    exact idx_no (by assumption) (by assumption)

theorem containsFunc_ok (xs : List Int) (g : Nat) (p : Int → Bool) (hg : ∀ a, PCall Try.prog g [.int .i64 a] (.bool (p a))) (hx : xs.length ≤ 140737488355328) : PCall Try.prog 26 [.ro (.ints .i64 xs), .fn g []] (.bool (xs.any p)) := by
  refine pcall_body ty_ok Try.func26 rfl (by rfl) (by simp) ?_
  rw [Try.ntmps26]
  refine swp_seq fun K1 hK1 => ?_
  refine swp_region ty_ok ?_
  try simp (maxSteps := 1000000) [runs, gd, step1, need, evu, un, opnds, opv, ev, cst, cst1, cstL, getT, getH, putT, onL, nxt, argT, cellsOf, PV.one, thn, inBlk, fldP, ldP, ldC, live, Cells.len, Cells.get, Cells.w, sug, ldv, bin, ops2, sh2, binv, Tk.agg, stC, apC, rdS, apS, mvL, zp, argsP, idx, fillP, toInts, chunks, mkC, ixS, ixA, oidx, slP, sl0, mxF, bltn, frzA, frz, frzL, frz1, pur1, Cells.pur, PV.scal, scal1, runD, rdO, PV.ids, id1, zids, ety, Eff.on, cnd, minb, and1b, ifmax, ifmin, mxv, sugI, w0, w1, w2, wm1]
  repeat' (first | apply And.intro | intro _)
  any_goals (first | (refine hK1 _ ?_; clear hK1) | (first | omega | (simp only [IntKind.wrap_i64] at *; omega) | (simp_all; done) | (simp_all; omega)))
  refine swp_seq fun K2 hK2 => ?_
  refine swp_region ty_ok ?_
  refine runs_cut 2 fun R3 hR3 => ?_
  try simp (maxSteps := 1000000) [runs, gd, step1, need, evu, un, opnds, opv, ev, cst, cst1, cstL, getT, getH, putT, onL, nxt, argT, cellsOf, PV.one, thn, inBlk, fldP, ldP, ldC, live, Cells.len, Cells.get, Cells.w, sug, ldv, bin, ops2, sh2, binv, Tk.agg, stC, apC, rdS, apS, mvL, zp, argsP, idx, fillP, toInts, chunks, mkC, ixS, ixA, oidx, slP, sl0, mxF, bltn, frzA, frz, frzL, frz1, pur1, Cells.pur, PV.scal, scal1, runD, rdO, PV.ids, id1, zids, ety, Eff.on, cnd, minb, and1b, ifmax, ifmin, mxv, sugI, w0, w1, w2, wm1, List.take_succ_cons, List.take_zero, List.drop_succ_cons, List.drop_zero]
  repeat' (first | apply And.intro | intro _)
  any_goals (first | (refine hR3 _ ?_; clear hR3) | (first | omega | (simp only [IntKind.wrap_i64] at *; omega) | (simp_all; done) | (simp_all; omega)))
  refine runs_cut 1 fun R4 hR4 => ?_
  try simp (maxSteps := 1000000) [runs, gd, step1, need, evu, un, opnds, opv, ev, cst, cst1, cstL, getT, getH, putT, onL, nxt, argT, cellsOf, PV.one, thn, inBlk, fldP, ldP, ldC, live, Cells.len, Cells.get, Cells.w, sug, ldv, bin, ops2, sh2, binv, Tk.agg, stC, apC, rdS, apS, mvL, zp, argsP, idx, fillP, toInts, chunks, mkC, ixS, ixA, oidx, slP, sl0, mxF, bltn, frzA, frz, frzL, frz1, pur1, Cells.pur, PV.scal, scal1, runD, rdO, PV.ids, id1, zids, ety, Eff.on, cnd, minb, and1b, ifmax, ifmin, mxv, sugI, w0, w1, w2, wm1, List.take_succ_cons, List.take_zero, List.drop_succ_cons, List.drop_zero]
  refine .inl ⟨_, indexFunc_ok xs g p hg hx, ?_⟩
  try simp (maxSteps := 1000000) [runs, gd, step1, need, evu, un, opnds, opv, ev, cst, cst1, cstL, getT, getH, putT, onL, nxt, argT, cellsOf, PV.one, thn, inBlk, fldP, ldP, ldC, live, Cells.len, Cells.get, Cells.w, sug, ldv, bin, ops2, sh2, binv, Tk.agg, stC, apC, rdS, apS, mvL, zp, argsP, idx, fillP, toInts, chunks, mkC, ixS, ixA, oidx, slP, sl0, mxF, bltn, frzA, frz, frzL, frz1, pur1, Cells.pur, PV.scal, scal1, runD, rdO, PV.ids, id1, zids, ety, Eff.on, cnd, minb, and1b, ifmax, ifmin, mxv, sugI, w0, w1, w2, wm1]
  repeat' (first | apply And.intro | intro _)
  any_goals (first | (refine hR4 _ ?_; clear hR4) | (first | omega | (simp only [IntKind.wrap_i64] at *; omega) | (simp_all; done) | (simp_all; omega)))
  try simp (maxSteps := 1000000) [runs, gd, step1, need, evu, un, opnds, opv, ev, cst, cst1, cstL, getT, getH, putT, onL, nxt, argT, cellsOf, PV.one, thn, inBlk, fldP, ldP, ldC, live, Cells.len, Cells.get, Cells.w, sug, ldv, bin, ops2, sh2, binv, Tk.agg, stC, apC, rdS, apS, mvL, zp, argsP, idx, fillP, toInts, chunks, mkC, ixS, ixA, oidx, slP, sl0, mxF, bltn, frzA, frz, frzL, frz1, pur1, Cells.pur, PV.scal, scal1, runD, rdO, PV.ids, id1, zids, ety, Eff.on, cnd, minb, and1b, ifmax, ifmin, mxv, sugI, w0, w1, w2, wm1, List.take_succ_cons, List.take_zero, List.drop_succ_cons, List.drop_zero]
  repeat' (first | apply And.intro | intro _)
  any_goals (first | (refine hK2 _ ?_; clear hK2) | (first | omega | (simp only [IntKind.wrap_i64] at *; omega) | (simp_all; done) | (simp_all; omega)))
  refine swp_ret ?_
  simp [runs, gd, step1, need, evu, un, opnds, opv, ev, cst, cst1, cstL, getT, getH, putT, onL, nxt, argT, cellsOf, PV.one, thn, inBlk, fldP, ldP, ldC, live, Cells.len, Cells.get, Cells.w, sug, ldv, bin, ops2, sh2, binv, Tk.agg, stC, apC, rdS, apS, mvL, zp, argsP, idx, fillP, toInts, chunks, mkC, ixS, ixA, oidx, slP, sl0, mxF, bltn, frzA, frz, frzL, frz1, pur1, Cells.pur, PV.scal, scal1, runD, rdO, PV.ids, id1, zids, ety, Eff.on, cnd, minb, and1b, ifmax, ifmin, mxv, sugI, w0, w1, w2, wm1, fnPost, Try.results26, resP, tupOf]
  rw [Bool.eq_iff_iff]; simp [idx_ge]

theorem reedpiperef17_asked_ok (xs ys : List Int) : PCall Try.prog 34 [.ro (.ints .i64 xs), .ro (.ints .i64 ys)] (.int .i64 (asked xs ys)) := by
  refine pcall_body ty_ok Try.func34 rfl (by rfl) (by simp) ?_
  rw [Try.ntmps34]
  refine swp_seq fun K1 hK1 => ?_
  refine swp_region ty_ok ?_
  try simp (maxSteps := 1000000) [runs, gd, step1, need, evu, un, opnds, opv, ev, cst, cst1, cstL, getT, getH, putT, onL, nxt, argT, cellsOf, PV.one, thn, inBlk, fldP, ldP, ldC, live, Cells.len, Cells.get, Cells.w, sug, ldv, bin, ops2, sh2, binv, Tk.agg, stC, apC, rdS, apS, mvL, zp, argsP, idx, fillP, toInts, chunks, mkC, ixS, ixA, oidx, slP, sl0, mxF, bltn, frzA, frz, frzL, frz1, pur1, Cells.pur, PV.scal, scal1, runD, rdO, PV.ids, id1, zids, ety, Eff.on, cnd, minb, and1b, ifmax, ifmin, mxv, sugI, w0, w1, w2, wm1]
  repeat' (first | apply And.intro | intro _)
  any_goals (first | (refine hK1 _ ?_; clear hK1) | (first | omega | (simp only [IntKind.wrap_i64] at *; omega) | (simp_all; done) | (simp_all; omega)))
  refine swp_seq fun K2 hK2 => ?_
  refine swp_seq fun K3 hK3 => ?_
  refine swp_region ty_ok ?_
  try simp (maxSteps := 1000000) [runs, gd, step1, need, evu, un, opnds, opv, ev, cst, cst1, cstL, getT, getH, putT, onL, nxt, argT, cellsOf, PV.one, thn, inBlk, fldP, ldP, ldC, live, Cells.len, Cells.get, Cells.w, sug, ldv, bin, ops2, sh2, binv, Tk.agg, stC, apC, rdS, apS, mvL, zp, argsP, idx, fillP, toInts, chunks, mkC, ixS, ixA, oidx, slP, sl0, mxF, bltn, frzA, frz, frzL, frz1, pur1, Cells.pur, PV.scal, scal1, runD, rdO, PV.ids, id1, zids, ety, Eff.on, cnd, minb, and1b, ifmax, ifmin, mxv, sugI, w0, w1, w2, wm1]
  repeat' (first | apply And.intro | intro _)
  any_goals (first | (refine hK3 _ ?_; clear hK3) | (first | omega | (simp only [IntKind.wrap_i64] at *; omega) | (simp_all; done) | (simp_all; omega)))
  refine swp_if fun C4 hC4 => ?_
  try simp (maxSteps := 1000000) [runs, gd, step1, need, evu, un, opnds, opv, ev, cst, cst1, cstL, getT, getH, putT, onL, nxt, argT, cellsOf, PV.one, thn, inBlk, fldP, ldP, ldC, live, Cells.len, Cells.get, Cells.w, sug, ldv, bin, ops2, sh2, binv, Tk.agg, stC, apC, rdS, apS, mvL, zp, argsP, idx, fillP, toInts, chunks, mkC, ixS, ixA, oidx, slP, sl0, mxF, bltn, frzA, frz, frzL, frz1, pur1, Cells.pur, PV.scal, scal1, runD, rdO, PV.ids, id1, zids, ety, Eff.on, cnd, minb, and1b, ifmax, ifmin, mxv, sugI, w0, w1, w2, wm1]
  refine hC4 _ (fun hc4 => ?_) (fun hc4 => ?_)
  · clear hC4
    try simp at hc4
    refine swp_seq fun K5 hK5 => ?_
    refine swp_region ty_ok ?_
    try simp (maxSteps := 1000000) [runs, gd, step1, need, evu, un, opnds, opv, ev, cst, cst1, cstL, getT, getH, putT, onL, nxt, argT, cellsOf, PV.one, thn, inBlk, fldP, ldP, ldC, live, Cells.len, Cells.get, Cells.w, sug, ldv, bin, ops2, sh2, binv, Tk.agg, stC, apC, rdS, apS, mvL, zp, argsP, idx, fillP, toInts, chunks, mkC, ixS, ixA, oidx, slP, sl0, mxF, bltn, frzA, frz, frzL, frz1, pur1, Cells.pur, PV.scal, scal1, runD, rdO, PV.ids, id1, zids, ety, Eff.on, cnd, minb, and1b, ifmax, ifmin, mxv, sugI, w0, w1, w2, wm1]
    repeat' (first | apply And.intro | intro _)
    any_goals (first | (refine hK5 _ ?_; clear hK5) | (first | omega | (simp only [IntKind.wrap_i64] at *; omega) | (simp_all; done) | (simp_all; omega)))
    refine swp_ret ?_
    simp [runs, gd, step1, need, evu, un, opnds, opv, ev, cst, cst1, cstL, getT, getH, putT, onL, nxt, argT, cellsOf, PV.one, thn, inBlk, fldP, ldP, ldC, live, Cells.len, Cells.get, Cells.w, sug, ldv, bin, ops2, sh2, binv, Tk.agg, stC, apC, rdS, apS, mvL, zp, argsP, idx, fillP, toInts, chunks, mkC, ixS, ixA, oidx, slP, sl0, mxF, bltn, frzA, frz, frzL, frz1, pur1, Cells.pur, PV.scal, scal1, runD, rdO, PV.ids, id1, zids, ety, Eff.on, cnd, minb, and1b, ifmax, ifmin, mxv, sugI, w0, w1, w2, wm1, fnPost, Try.results34, resP, tupOf]
    exact asked4 (by omega)
  · clear hC4
    try simp at hc4
    refine swp_skip ?_
    simp only [thn, inBlk]
    refine hK2 _ ?_; clear hK2
    refine swp_seq fun K6 hK6 => ?_
    refine swp_seq fun K7 hK7 => ?_
    refine swp_region ty_ok ?_
    try simp (maxSteps := 1000000) [runs, gd, step1, need, evu, un, opnds, opv, ev, cst, cst1, cstL, getT, getH, putT, onL, nxt, argT, cellsOf, PV.one, thn, inBlk, fldP, ldP, ldC, live, Cells.len, Cells.get, Cells.w, sug, ldv, bin, ops2, sh2, binv, Tk.agg, stC, apC, rdS, apS, mvL, zp, argsP, idx, fillP, toInts, chunks, mkC, ixS, ixA, oidx, slP, sl0, mxF, bltn, frzA, frz, frzL, frz1, pur1, Cells.pur, PV.scal, scal1, runD, rdO, PV.ids, id1, zids, ety, Eff.on, cnd, minb, and1b, ifmax, ifmin, mxv, sugI, w0, w1, w2, wm1]
    repeat' (first | apply And.intro | intro _)
    any_goals (first | (refine hK7 _ ?_; clear hK7) | (first | omega | (simp only [IntKind.wrap_i64] at *; omega) | (simp_all; done) | (simp_all; omega)))
    refine swp_block ?_
    refine swp_loop 0 (fun m_ s_ => ∃ (i : Nat), (i ≤ xs.length) ∧ (xs.length = ys.length) ∧ (xs.length ≤ 256) ∧ (∀ j < i, far (xs[j]?.getD 0) = false ∧ far (ys[j]?.getD 0) = false) ∧ s_ = ⟨[(0, .ro (.ints .i64 xs)), (1, .ro (.ints .i64 ys)), (5, .int .i64 (i : Nat))], [], 0⟩ ∧ m_ = xs.length - i) _ ⟨[(0, .ro (.ints .i64 xs)), (1, .ro (.ints .i64 ys)), (5, .int .i64 (0 : Nat))], [], 0⟩ ⟨by simp [getT, PV.lo, lo1], by simp [getH, Blk.lo, Cells.lo, lo1], rfl, by omega⟩ ⟨(0), by omega, by omega, by omega, by simp, rfl, rfl⟩ ?_
    rintro m_ s_ ⟨i, hL8_0, hL8_1, hL8_2, hL8_3, rfl, rfl⟩ KL8 hL8
    have hw : IntKind.i64.wrap ((i : Int) + 1) = (((i + 1 : Nat)) : Int) := wnext (by omega)
    refine swp_seq fun K9 hK9 => ?_
    refine swp_seq fun K10 hK10 => ?_
    refine swp_region ty_ok ?_
    try simp (maxSteps := 1000000) [runs, gd, step1, need, evu, un, opnds, opv, ev, cst, cst1, cstL, getT, getH, putT, onL, nxt, argT, cellsOf, PV.one, thn, inBlk, fldP, ldP, ldC, live, Cells.len, Cells.get, Cells.w, sug, ldv, bin, ops2, sh2, binv, Tk.agg, stC, apC, rdS, apS, mvL, zp, argsP, idx, fillP, toInts, chunks, mkC, ixS, ixA, oidx, slP, sl0, mxF, bltn, frzA, frz, frzL, frz1, pur1, Cells.pur, PV.scal, scal1, runD, rdO, PV.ids, id1, zids, ety, Eff.on, cnd, minb, and1b, ifmax, ifmin, mxv, sugI, w0, w1, w2, wm1]
    repeat' (first | apply And.intro | intro _)
    any_goals (first | (refine hK10 _ ?_; clear hK10) | (first | omega | (simp only [IntKind.wrap_i64] at *; omega) | (simp_all; done) | (simp_all; omega)))
    refine swp_if fun C11 hC11 => ?_
    try simp (maxSteps := 1000000) [runs, gd, step1, need, evu, un, opnds, opv, ev, cst, cst1, cstL, getT, getH, putT, onL, nxt, argT, cellsOf, PV.one, thn, inBlk, fldP, ldP, ldC, live, Cells.len, Cells.get, Cells.w, sug, ldv, bin, ops2, sh2, binv, Tk.agg, stC, apC, rdS, apS, mvL, zp, argsP, idx, fillP, toInts, chunks, mkC, ixS, ixA, oidx, slP, sl0, mxF, bltn, frzA, frz, frzL, frz1, pur1, Cells.pur, PV.scal, scal1, runD, rdO, PV.ids, id1, zids, ety, Eff.on, cnd, minb, and1b, ifmax, ifmin, mxv, sugI, w0, w1, w2, wm1]
    refine hC11 _ (fun hc11 => ?_) (fun hc11 => ?_)
    · clear hC11
      try simp at hc11
      refine swp_skip ?_
      simp only [thn, inBlk]
      refine hK9 _ ?_; clear hK9
      refine swp_seq fun K12 hK12 => ?_
      refine swp_block ?_
      refine swp_seq fun K13 hK13 => ?_
      refine swp_region ty_ok ?_
      refine runs_cut 8 fun R14 hR14 => ?_
      try simp (maxSteps := 1000000) [runs, gd, step1, need, evu, un, opnds, opv, ev, cst, cst1, cstL, getT, getH, putT, onL, nxt, argT, cellsOf, PV.one, thn, inBlk, fldP, ldP, ldC, live, Cells.len, Cells.get, Cells.w, sug, ldv, bin, ops2, sh2, binv, Tk.agg, stC, apC, rdS, apS, mvL, zp, argsP, idx, fillP, toInts, chunks, mkC, ixS, ixA, oidx, slP, sl0, mxF, bltn, frzA, frz, frzL, frz1, pur1, Cells.pur, PV.scal, scal1, runD, rdO, PV.ids, id1, zids, ety, Eff.on, cnd, minb, and1b, ifmax, ifmin, mxv, sugI, w0, w1, w2, wm1, List.take_succ_cons, List.take_zero, List.drop_succ_cons, List.drop_zero]
      repeat' (first | apply And.intro | intro _)
      any_goals (first | (refine hR14 _ ?_; clear hR14) | (first | omega | (simp only [IntKind.wrap_i64] at *; omega) | (simp_all; done) | (simp_all; omega)))
      refine runs_cut 9 fun R15 hR15 => ?_
      try simp (maxSteps := 1000000) [runs, gd, step1, need, evu, un, opnds, opv, ev, cst, cst1, cstL, getT, getH, putT, onL, nxt, argT, cellsOf, PV.one, thn, inBlk, fldP, ldP, ldC, live, Cells.len, Cells.get, Cells.w, sug, ldv, bin, ops2, sh2, binv, Tk.agg, stC, apC, rdS, apS, mvL, zp, argsP, idx, fillP, toInts, chunks, mkC, ixS, ixA, oidx, slP, sl0, mxF, bltn, frzA, frz, frzL, frz1, pur1, Cells.pur, PV.scal, scal1, runD, rdO, PV.ids, id1, zids, ety, Eff.on, cnd, minb, and1b, ifmax, ifmin, mxv, sugI, w0, w1, w2, wm1, List.take_succ_cons, List.take_zero, List.drop_succ_cons, List.drop_zero]
      repeat' (first | apply And.intro | intro _)
      any_goals (first | (refine hR15 _ ?_; clear hR15) | (first | omega | (simp only [IntKind.wrap_i64] at *; omega) | (simp_all; done) | (simp_all; omega)))
      try simp (maxSteps := 1000000) [runs, gd, step1, need, evu, un, opnds, opv, ev, cst, cst1, cstL, getT, getH, putT, onL, nxt, argT, cellsOf, PV.one, thn, inBlk, fldP, ldP, ldC, live, Cells.len, Cells.get, Cells.w, sug, ldv, bin, ops2, sh2, binv, Tk.agg, stC, apC, rdS, apS, mvL, zp, argsP, idx, fillP, toInts, chunks, mkC, ixS, ixA, oidx, slP, sl0, mxF, bltn, frzA, frz, frzL, frz1, pur1, Cells.pur, PV.scal, scal1, runD, rdO, PV.ids, id1, zids, ety, Eff.on, cnd, minb, and1b, ifmax, ifmin, mxv, sugI, w0, w1, w2, wm1, List.take_succ_cons, List.take_zero, List.drop_succ_cons, List.drop_zero]
      repeat' (first | apply And.intro | intro _)
      any_goals (first | (refine hK13 _ ?_; clear hK13) | (first | omega | (simp only [IntKind.wrap_i64] at *; omega) | (simp_all; done) | (simp_all; omega)))
      refine swp_if fun C16 hC16 => ?_
      try simp (maxSteps := 1000000) [runs, gd, step1, need, evu, un, opnds, opv, ev, cst, cst1, cstL, getT, getH, putT, onL, nxt, argT, cellsOf, PV.one, thn, inBlk, fldP, ldP, ldC, live, Cells.len, Cells.get, Cells.w, sug, ldv, bin, ops2, sh2, binv, Tk.agg, stC, apC, rdS, apS, mvL, zp, argsP, idx, fillP, toInts, chunks, mkC, ixS, ixA, oidx, slP, sl0, mxF, bltn, frzA, frz, frzL, frz1, pur1, Cells.pur, PV.scal, scal1, runD, rdO, PV.ids, id1, zids, ety, Eff.on, cnd, minb, and1b, ifmax, ifmin, mxv, sugI, w0, w1, w2, wm1]
      refine hC16 _ (fun hc16 => ?_) (fun hc16 => ?_)
      · clear hC16
        try simp at hc16
        refine swp_seq fun K17 hK17 => ?_
        refine swp_region ty_ok ?_
        try simp (maxSteps := 1000000) [runs, gd, step1, need, evu, un, opnds, opv, ev, cst, cst1, cstL, getT, getH, putT, onL, nxt, argT, cellsOf, PV.one, thn, inBlk, fldP, ldP, ldC, live, Cells.len, Cells.get, Cells.w, sug, ldv, bin, ops2, sh2, binv, Tk.agg, stC, apC, rdS, apS, mvL, zp, argsP, idx, fillP, toInts, chunks, mkC, ixS, ixA, oidx, slP, sl0, mxF, bltn, frzA, frz, frzL, frz1, pur1, Cells.pur, PV.scal, scal1, runD, rdO, PV.ids, id1, zids, ety, Eff.on, cnd, minb, and1b, ifmax, ifmin, mxv, sugI, w0, w1, w2, wm1]
        repeat' (first | apply And.intro | intro _)
        any_goals (first | (refine hK17 _ ?_; clear hK17) | (first | omega | (simp only [IntKind.wrap_i64] at *; omega) | (simp_all; done) | (simp_all; omega)))
        refine swp_ret ?_
        simp [runs, gd, step1, need, evu, un, opnds, opv, ev, cst, cst1, cstL, getT, getH, putT, onL, nxt, argT, cellsOf, PV.one, thn, inBlk, fldP, ldP, ldC, live, Cells.len, Cells.get, Cells.w, sug, ldv, bin, ops2, sh2, binv, Tk.agg, stC, apC, rdS, apS, mvL, zp, argsP, idx, fillP, toInts, chunks, mkC, ixS, ixA, oidx, slP, sl0, mxF, bltn, frzA, frz, frzL, frz1, pur1, Cells.pur, PV.scal, scal1, runD, rdO, PV.ids, id1, zids, ety, Eff.on, cnd, minb, and1b, ifmax, ifmin, mxv, sugI, w0, w1, w2, wm1, fnPost, Try.results34, resP, tupOf]
        exact asked2 (by assumption) (by assumption) (by assumption) (by simp [far]; omega)
      · clear hC16
        try simp at hc16
        refine swp_skip ?_
        simp only [thn, inBlk]
        refine hK12 _ ?_; clear hK12
        refine swp_region ty_ok ?_
        try simp (maxSteps := 1000000) [runs, gd, step1, need, evu, un, opnds, opv, ev, cst, cst1, cstL, getT, getH, putT, onL, nxt, argT, cellsOf, PV.one, thn, inBlk, fldP, ldP, ldC, live, Cells.len, Cells.get, Cells.w, sug, ldv, bin, ops2, sh2, binv, Tk.agg, stC, apC, rdS, apS, mvL, zp, argsP, idx, fillP, toInts, chunks, mkC, ixS, ixA, oidx, slP, sl0, mxF, bltn, frzA, frz, frzL, frz1, pur1, Cells.pur, PV.scal, scal1, runD, rdO, PV.ids, id1, zids, ety, Eff.on, cnd, minb, and1b, ifmax, ifmin, mxv, sugI, w0, w1, w2, wm1]
        refine hL8 _ ⟨[(0, .ro (.ints .i64 xs)), (1, .ro (.ints .i64 ys)), (5, .int .i64 ((i + 1) : Nat))], [], 0⟩ _ ?_ ⟨(i + 1), by omega, by omega, by omega, by refine lt_step (by assumption) ?_; simp [far]; omega, rfl, rfl⟩ ⟨by simp [getT, PV.lo, lo1, hw], by simp [getH, Blk.lo, Cells.lo, lo1], rfl, by omega⟩
        omega
    · clear hC11
      try simp at hc11
      refine swp_exit ?_
      simp [thn, inBlk]
      refine hK6 _ ?_; clear hK6
      refine swp_seq fun K18 hK18 => ?_
      refine swp_region ty_ok ?_
      try simp (maxSteps := 1000000) [runs, gd, step1, need, evu, un, opnds, opv, ev, cst, cst1, cstL, getT, getH, putT, onL, nxt, argT, cellsOf, PV.one, thn, inBlk, fldP, ldP, ldC, live, Cells.len, Cells.get, Cells.w, sug, ldv, bin, ops2, sh2, binv, Tk.agg, stC, apC, rdS, apS, mvL, zp, argsP, idx, fillP, toInts, chunks, mkC, ixS, ixA, oidx, slP, sl0, mxF, bltn, frzA, frz, frzL, frz1, pur1, Cells.pur, PV.scal, scal1, runD, rdO, PV.ids, id1, zids, ety, Eff.on, cnd, minb, and1b, ifmax, ifmin, mxv, sugI, w0, w1, w2, wm1]
      repeat' (first | apply And.intro | intro _)
      any_goals (first | (refine hK18 _ ?_; clear hK18) | (first | omega | (simp only [IntKind.wrap_i64] at *; omega) | (simp_all; done) | (simp_all; omega)))
      refine swp_ret ?_
      simp [runs, gd, step1, need, evu, un, opnds, opv, ev, cst, cst1, cstL, getT, getH, putT, onL, nxt, argT, cellsOf, PV.one, thn, inBlk, fldP, ldP, ldC, live, Cells.len, Cells.get, Cells.w, sug, ldv, bin, ops2, sh2, binv, Tk.agg, stC, apC, rdS, apS, mvL, zp, argsP, idx, fillP, toInts, chunks, mkC, ixS, ixA, oidx, slP, sl0, mxF, bltn, frzA, frz, frzL, frz1, pur1, Cells.pur, PV.scal, scal1, runD, rdO, PV.ids, id1, zids, ety, Eff.on, cnd, minb, and1b, ifmax, ifmin, mxv, sugI, w0, w1, w2, wm1, fnPost, Try.results34, resP, tupOf]
      exact asked0 (by assumption) (by assumption) (by assumption) (by assumption)

theorem mid_halved_ok (f : Nat) : PCall Try.prog 33 [.fn f []] (.fn 43 [.rop (.rows 1 [[.fn f []]]) 0 0]) := by
  refine pcall_body ty_ok Try.func33 rfl (by rfl) (by simp) ?_
  rw [Try.ntmps33]
  refine swp_seq fun K1 hK1 => ?_
  refine swp_region ty_ok ?_
  try simp (maxSteps := 1000000) [runs, gd, step1, need, evu, un, opnds, opv, ev, cst, cst1, cstL, getT, getH, putT, onL, nxt, argT, cellsOf, PV.one, thn, inBlk, fldP, ldP, ldC, live, Cells.len, Cells.get, Cells.w, sug, ldv, bin, ops2, sh2, binv, Tk.agg, stC, apC, rdS, apS, mvL, zp, argsP, idx, fillP, toInts, chunks, mkC, ixS, ixA, oidx, slP, sl0, mxF, bltn, frzA, frz, frzL, frz1, pur1, Cells.pur, PV.scal, scal1, runD, rdO, PV.ids, id1, zids, ety, Eff.on, cnd, minb, and1b, ifmax, ifmin, mxv, sugI, w0, w1, w2, wm1]
  repeat' (first | apply And.intro | intro _)
  any_goals (first | (refine hK1 _ ?_; clear hK1) | (first | omega | (simp only [IntKind.wrap_i64] at *; omega) | (simp_all; done) | (simp_all; omega)))
  refine swp_seq fun K2 hK2 => ?_
  refine swp_region ty_ok ?_
  try simp (maxSteps := 1000000) [runs, gd, step1, need, evu, un, opnds, opv, ev, cst, cst1, cstL, getT, getH, putT, onL, nxt, argT, cellsOf, PV.one, thn, inBlk, fldP, ldP, ldC, live, Cells.len, Cells.get, Cells.w, sug, ldv, bin, ops2, sh2, binv, Tk.agg, stC, apC, rdS, apS, mvL, zp, argsP, idx, fillP, toInts, chunks, mkC, ixS, ixA, oidx, slP, sl0, mxF, bltn, frzA, frz, frzL, frz1, pur1, Cells.pur, PV.scal, scal1, runD, rdO, PV.ids, id1, zids, ety, Eff.on, cnd, minb, and1b, ifmax, ifmin, mxv, sugI, w0, w1, w2, wm1]
  repeat' (first | apply And.intro | intro _)
  any_goals (first | (refine hK2 _ ?_; clear hK2) | (first | omega | (simp only [IntKind.wrap_i64] at *; omega) | (simp_all; done) | (simp_all; omega)))
  refine swp_ret ?_
  simp [runs, gd, step1, need, evu, un, opnds, opv, ev, cst, cst1, cstL, getT, getH, putT, onL, nxt, argT, cellsOf, PV.one, thn, inBlk, fldP, ldP, ldC, live, Cells.len, Cells.get, Cells.w, sug, ldv, bin, ops2, sh2, binv, Tk.agg, stC, apC, rdS, apS, mvL, zp, argsP, idx, fillP, toInts, chunks, mkC, ixS, ixA, oidx, slP, sl0, mxF, bltn, frzA, frz, frzL, frz1, pur1, Cells.pur, PV.scal, scal1, runD, rdO, PV.ids, id1, zids, ety, Eff.on, cnd, minb, and1b, ifmax, ifmin, mxv, sugI, w0, w1, w2, wm1, fnPost, Try.results33, resP, tupOf]

theorem mid_halved_1_ok (a b : Int) (f : Nat) (F : Int → Int → Int) (hf : ∀ a b, PCall Try.prog f [.int .i64 a, .int .i64 b] (.int .i64 (F a b))) : PCall Try.prog 43 [.int .i64 a, .int .i64 b, .rop (.rows 1 [[.fn f []]]) 0 0] (.int .i64 (mHalf F a b)) := by
  refine pcall_body ty_ok Try.func43 rfl (by rfl) (by simp) ?_
  rw [Try.ntmps43]
  refine swp_seq fun K1 hK1 => ?_
  refine swp_region ty_ok ?_
  try simp (maxSteps := 1000000) [runs, gd, step1, need, evu, un, opnds, opv, ev, cst, cst1, cstL, getT, getH, putT, onL, nxt, argT, cellsOf, PV.one, thn, inBlk, fldP, ldP, ldC, live, Cells.len, Cells.get, Cells.w, sug, ldv, bin, ops2, sh2, binv, Tk.agg, stC, apC, rdS, apS, mvL, zp, argsP, idx, fillP, toInts, chunks, mkC, ixS, ixA, oidx, slP, sl0, mxF, bltn, frzA, frz, frzL, frz1, pur1, Cells.pur, PV.scal, scal1, runD, rdO, PV.ids, id1, zids, ety, Eff.on, cnd, minb, and1b, ifmax, ifmin, mxv, sugI, w0, w1, w2, wm1]
  repeat' (first | apply And.intro | intro _)
  any_goals (first | (refine hK1 _ ?_; clear hK1) | (first | omega | (simp only [IntKind.wrap_i64] at *; omega) | (simp_all; done) | (simp_all; omega)))
  refine swp_seq fun K2 hK2 => ?_
  refine swp_region ty_ok ?_
  refine runs_cut 3 fun R3 hR3 => ?_
  try simp (maxSteps := 1000000) [runs, gd, step1, need, evu, un, opnds, opv, ev, cst, cst1, cstL, getT, getH, putT, onL, nxt, argT, cellsOf, PV.one, thn, inBlk, fldP, ldP, ldC, live, Cells.len, Cells.get, Cells.w, sug, ldv, bin, ops2, sh2, binv, Tk.agg, stC, apC, rdS, apS, mvL, zp, argsP, idx, fillP, toInts, chunks, mkC, ixS, ixA, oidx, slP, sl0, mxF, bltn, frzA, frz, frzL, frz1, pur1, Cells.pur, PV.scal, scal1, runD, rdO, PV.ids, id1, zids, ety, Eff.on, cnd, minb, and1b, ifmax, ifmin, mxv, sugI, w0, w1, w2, wm1, List.take_succ_cons, List.take_zero, List.drop_succ_cons, List.drop_zero]
  repeat' (first | apply And.intro | intro _)
  any_goals (first | (refine hR3 _ ?_; clear hR3) | (first | omega | (simp only [IntKind.wrap_i64] at *; omega) | (simp_all; done) | (simp_all; omega)))
  refine runs_cut 1 fun R4 hR4 => ?_
  try simp (maxSteps := 1000000) [runs, gd, step1, need, evu, un, opnds, opv, ev, cst, cst1, cstL, getT, getH, putT, onL, nxt, argT, cellsOf, PV.one, thn, inBlk, fldP, ldP, ldC, live, Cells.len, Cells.get, Cells.w, sug, ldv, bin, ops2, sh2, binv, Tk.agg, stC, apC, rdS, apS, mvL, zp, argsP, idx, fillP, toInts, chunks, mkC, ixS, ixA, oidx, slP, sl0, mxF, bltn, frzA, frz, frzL, frz1, pur1, Cells.pur, PV.scal, scal1, runD, rdO, PV.ids, id1, zids, ety, Eff.on, cnd, minb, and1b, ifmax, ifmin, mxv, sugI, w0, w1, w2, wm1, List.take_succ_cons, List.take_zero, List.drop_succ_cons, List.drop_zero]
  refine .inl ⟨_, hf _ _, ?_⟩
  try simp (maxSteps := 1000000) [runs, gd, step1, need, evu, un, opnds, opv, ev, cst, cst1, cstL, getT, getH, putT, onL, nxt, argT, cellsOf, PV.one, thn, inBlk, fldP, ldP, ldC, live, Cells.len, Cells.get, Cells.w, sug, ldv, bin, ops2, sh2, binv, Tk.agg, stC, apC, rdS, apS, mvL, zp, argsP, idx, fillP, toInts, chunks, mkC, ixS, ixA, oidx, slP, sl0, mxF, bltn, frzA, frz, frzL, frz1, pur1, Cells.pur, PV.scal, scal1, runD, rdO, PV.ids, id1, zids, ety, Eff.on, cnd, minb, and1b, ifmax, ifmin, mxv, sugI, w0, w1, w2, wm1]
  repeat' (first | apply And.intro | intro _)
  any_goals (first | (refine hR4 _ ?_; clear hR4) | (first | omega | (simp only [IntKind.wrap_i64] at *; omega) | (simp_all; done) | (simp_all; omega)))
  refine runs_cut 1 fun R5 hR5 => ?_
  try simp (maxSteps := 1000000) [runs, gd, step1, need, evu, un, opnds, opv, ev, cst, cst1, cstL, getT, getH, putT, onL, nxt, argT, cellsOf, PV.one, thn, inBlk, fldP, ldP, ldC, live, Cells.len, Cells.get, Cells.w, sug, ldv, bin, ops2, sh2, binv, Tk.agg, stC, apC, rdS, apS, mvL, zp, argsP, idx, fillP, toInts, chunks, mkC, ixS, ixA, oidx, slP, sl0, mxF, bltn, frzA, frz, frzL, frz1, pur1, Cells.pur, PV.scal, scal1, runD, rdO, PV.ids, id1, zids, ety, Eff.on, cnd, minb, and1b, ifmax, ifmin, mxv, sugI, w0, w1, w2, wm1, List.take_succ_cons, List.take_zero, List.drop_succ_cons, List.drop_zero]
  refine .inl ⟨_, fix_Round_ok _ _, ?_⟩
  try simp (maxSteps := 1000000) [runs, gd, step1, need, evu, un, opnds, opv, ev, cst, cst1, cstL, getT, getH, putT, onL, nxt, argT, cellsOf, PV.one, thn, inBlk, fldP, ldP, ldC, live, Cells.len, Cells.get, Cells.w, sug, ldv, bin, ops2, sh2, binv, Tk.agg, stC, apC, rdS, apS, mvL, zp, argsP, idx, fillP, toInts, chunks, mkC, ixS, ixA, oidx, slP, sl0, mxF, bltn, frzA, frz, frzL, frz1, pur1, Cells.pur, PV.scal, scal1, runD, rdO, PV.ids, id1, zids, ety, Eff.on, cnd, minb, and1b, ifmax, ifmin, mxv, sugI, w0, w1, w2, wm1]
  repeat' (first | apply And.intro | intro _)
  any_goals (first | (refine hR5 _ ?_; clear hR5) | (first | omega | (simp only [IntKind.wrap_i64] at *; omega) | (simp_all; done) | (simp_all; omega)))
  try simp (maxSteps := 1000000) [runs, gd, step1, need, evu, un, opnds, opv, ev, cst, cst1, cstL, getT, getH, putT, onL, nxt, argT, cellsOf, PV.one, thn, inBlk, fldP, ldP, ldC, live, Cells.len, Cells.get, Cells.w, sug, ldv, bin, ops2, sh2, binv, Tk.agg, stC, apC, rdS, apS, mvL, zp, argsP, idx, fillP, toInts, chunks, mkC, ixS, ixA, oidx, slP, sl0, mxF, bltn, frzA, frz, frzL, frz1, pur1, Cells.pur, PV.scal, scal1, runD, rdO, PV.ids, id1, zids, ety, Eff.on, cnd, minb, and1b, ifmax, ifmin, mxv, sugI, w0, w1, w2, wm1, List.take_succ_cons, List.take_zero, List.drop_succ_cons, List.drop_zero]
  repeat' (first | apply And.intro | intro _)
  any_goals (first | (refine hK2 _ ?_; clear hK2) | (first | omega | (simp only [IntKind.wrap_i64] at *; omega) | (simp_all; done) | (simp_all; omega)))
  refine swp_seq fun K6 hK6 => ?_
  refine swp_region ty_ok ?_
  try simp (maxSteps := 1000000) [runs, gd, step1, need, evu, un, opnds, opv, ev, cst, cst1, cstL, getT, getH, putT, onL, nxt, argT, cellsOf, PV.one, thn, inBlk, fldP, ldP, ldC, live, Cells.len, Cells.get, Cells.w, sug, ldv, bin, ops2, sh2, binv, Tk.agg, stC, apC, rdS, apS, mvL, zp, argsP, idx, fillP, toInts, chunks, mkC, ixS, ixA, oidx, slP, sl0, mxF, bltn, frzA, frz, frzL, frz1, pur1, Cells.pur, PV.scal, scal1, runD, rdO, PV.ids, id1, zids, ety, Eff.on, cnd, minb, and1b, ifmax, ifmin, mxv, sugI, w0, w1, w2, wm1]
  repeat' (first | apply And.intro | intro _)
  any_goals (first | (refine hK6 _ ?_; clear hK6) | (first | omega | (simp only [IntKind.wrap_i64] at *; omega) | (simp_all; done) | (simp_all; omega)))
  refine swp_ret ?_
  simp [runs, gd, step1, need, evu, un, opnds, opv, ev, cst, cst1, cstL, getT, getH, putT, onL, nxt, argT, cellsOf, PV.one, thn, inBlk, fldP, ldP, ldC, live, Cells.len, Cells.get, Cells.w, sug, ldv, bin, ops2, sh2, binv, Tk.agg, stC, apC, rdS, apS, mvL, zp, argsP, idx, fillP, toInts, chunks, mkC, ixS, ixA, oidx, slP, sl0, mxF, bltn, frzA, frz, frzL, frz1, pur1, Cells.pur, PV.scal, scal1, runD, rdO, PV.ids, id1, zids, ety, Eff.on, cnd, minb, and1b, ifmax, ifmin, mxv, sugI, w0, w1, w2, wm1, fnPost, Try.results43, resP, tupOf]
  rfl

theorem mid_each_ok (xs ys : List Int) (f g : Nat) (cf cg : List PV) (F G : Int → Int → Int) (hf : ∀ a b, PCall Try.prog f (.int .i64 a :: .int .i64 b :: cf) (.int .i64 (F a b))) (hg : ∀ a b, PCall Try.prog g (.int .i64 a :: .int .i64 b :: cg) (.int .i64 (G a b))) (hcf : ∀ H K, frzA H cf K = K cf []) (hcg : ∀ H K, frzA H cg K = K cg []) (hlf : ∀ k, (∀ x, x ∈ cf → lo1 k x = true) ↔ True) (hlg : ∀ k, (∀ x, x ∈ cg → lo1 k x = true) ↔ True) (hx : xs.length ≤ 140737488355328) (hy : ys.length ≤ 140737488355328) : PCall Try.prog 30 [.ro (.ints .i64 xs), .ro (.ints .i64 ys), .fn f cf, .fn g cg] (.tup [.ro (.ints .i64 (mEach F G xs ys).1), .ro (.ints .i64 (mEach F G xs ys).2.1), .int .i64 (mEach F G xs ys).2.2]) := by
  refine pcall_body ty_ok Try.func30 rfl (by rfl) (by simp) ?_
  rw [Try.ntmps30]
  refine swp_seq fun K1 hK1 => ?_
  refine swp_region ty_ok ?_
  try simp (maxSteps := 1000000) [runs, gd, step1, need, evu, un, opnds, opv, ev, cst, cst1, cstL, getT, getH, putT, onL, nxt, argT, cellsOf, PV.one, thn, inBlk, fldP, ldP, ldC, live, Cells.len, Cells.get, Cells.w, sug, ldv, bin, ops2, sh2, binv, Tk.agg, stC, apC, rdS, apS, mvL, zp, argsP, idx, fillP, toInts, chunks, mkC, ixS, ixA, oidx, slP, sl0, mxF, bltn, frzA, frz, frzL, frz1, pur1, Cells.pur, PV.scal, scal1, runD, rdO, PV.ids, id1, zids, ety, Eff.on, cnd, minb, and1b, ifmax, ifmin, mxv, sugI, w0, w1, w2, wm1, hcf, hcg, row_len]
  repeat' (first | apply And.intro | intro _)
  any_goals (first | (refine hK1 _ ?_; clear hK1) | (first | omega | (simp only [IntKind.wrap_i64] at *; omega) | (simp_all; done) | (simp_all; omega)))
  refine swp_seq fun K2 hK2 => ?_
  refine swp_block ?_
  refine swp_seq fun K3 hK3 => ?_
  refine swp_region ty_ok ?_
  try simp (maxSteps := 1000000) [runs, gd, step1, need, evu, un, opnds, opv, ev, cst, cst1, cstL, getT, getH, putT, onL, nxt, argT, cellsOf, PV.one, thn, inBlk, fldP, ldP, ldC, live, Cells.len, Cells.get, Cells.w, sug, ldv, bin, ops2, sh2, binv, Tk.agg, stC, apC, rdS, apS, mvL, zp, argsP, idx, fillP, toInts, chunks, mkC, ixS, ixA, oidx, slP, sl0, mxF, bltn, frzA, frz, frzL, frz1, pur1, Cells.pur, PV.scal, scal1, runD, rdO, PV.ids, id1, zids, ety, Eff.on, cnd, minb, and1b, ifmax, ifmin, mxv, sugI, w0, w1, w2, wm1, hcf, hcg, row_len]
  repeat' (first | apply And.intro | intro _)
  any_goals (first | (refine hK3 _ ?_; clear hK3) | (first | omega | (simp only [IntKind.wrap_i64] at *; omega) | (simp_all; done) | (simp_all; omega)))
  refine swp_if fun C4 hC4 => ?_
  try simp (maxSteps := 1000000) [runs, gd, step1, need, evu, un, opnds, opv, ev, cst, cst1, cstL, getT, getH, putT, onL, nxt, argT, cellsOf, PV.one, thn, inBlk, fldP, ldP, ldC, live, Cells.len, Cells.get, Cells.w, sug, ldv, bin, ops2, sh2, binv, Tk.agg, stC, apC, rdS, apS, mvL, zp, argsP, idx, fillP, toInts, chunks, mkC, ixS, ixA, oidx, slP, sl0, mxF, bltn, frzA, frz, frzL, frz1, pur1, Cells.pur, PV.scal, scal1, runD, rdO, PV.ids, id1, zids, ety, Eff.on, cnd, minb, and1b, ifmax, ifmin, mxv, sugI, w0, w1, w2, wm1, hcf, hcg, row_len]
  refine hC4 _ (fun hc4 => ?_) (fun hc4 => ?_)
  · clear hC4
    try simp at hc4
    refine swp_seq fun K5 hK5 => ?_
    refine swp_region ty_ok ?_
    try simp (maxSteps := 1000000) [runs, gd, step1, need, evu, un, opnds, opv, ev, cst, cst1, cstL, getT, getH, putT, onL, nxt, argT, cellsOf, PV.one, thn, inBlk, fldP, ldP, ldC, live, Cells.len, Cells.get, Cells.w, sug, ldv, bin, ops2, sh2, binv, Tk.agg, stC, apC, rdS, apS, mvL, zp, argsP, idx, fillP, toInts, chunks, mkC, ixS, ixA, oidx, slP, sl0, mxF, bltn, frzA, frz, frzL, frz1, pur1, Cells.pur, PV.scal, scal1, runD, rdO, PV.ids, id1, zids, ety, Eff.on, cnd, minb, and1b, ifmax, ifmin, mxv, sugI, w0, w1, w2, wm1, hcf, hcg, row_len]
    repeat' (first | apply And.intro | intro _)
    any_goals (first | (refine hK5 _ ?_; clear hK5) | (first | omega | (simp only [IntKind.wrap_i64] at *; omega) | (simp_all; done) | (simp_all; omega)))
    refine swp_ret ?_
    simp [runs, gd, step1, need, evu, un, opnds, opv, ev, cst, cst1, cstL, getT, getH, putT, onL, nxt, argT, cellsOf, PV.one, thn, inBlk, fldP, ldP, ldC, live, Cells.len, Cells.get, Cells.w, sug, ldv, bin, ops2, sh2, binv, Tk.agg, stC, apC, rdS, apS, mvL, zp, argsP, idx, fillP, toInts, chunks, mkC, ixS, ixA, oidx, slP, sl0, mxF, bltn, frzA, frz, frzL, frz1, pur1, Cells.pur, PV.scal, scal1, runD, rdO, PV.ids, id1, zids, ety, Eff.on, cnd, minb, and1b, ifmax, ifmin, mxv, sugI, w0, w1, w2, wm1, fnPost, Try.results30, resP, tupOf]
    rw [mEach, asked4 (by omega)]; simp
  · clear hC4
    try simp at hc4
    refine swp_seq fun K6 hK6 => ?_
    refine swp_region ty_ok ?_
    refine runs_cut 1 fun R7 hR7 => ?_
    try simp (maxSteps := 1000000) [runs, gd, step1, need, evu, un, opnds, opv, ev, cst, cst1, cstL, getT, getH, putT, onL, nxt, argT, cellsOf, PV.one, thn, inBlk, fldP, ldP, ldC, live, Cells.len, Cells.get, Cells.w, sug, ldv, bin, ops2, sh2, binv, Tk.agg, stC, apC, rdS, apS, mvL, zp, argsP, idx, fillP, toInts, chunks, mkC, ixS, ixA, oidx, slP, sl0, mxF, bltn, frzA, frz, frzL, frz1, pur1, Cells.pur, PV.scal, scal1, runD, rdO, PV.ids, id1, zids, ety, Eff.on, cnd, minb, and1b, ifmax, ifmin, mxv, sugI, w0, w1, w2, wm1, hcf, hcg, row_len, List.take_succ_cons, List.take_zero, List.drop_succ_cons, List.drop_zero]
    repeat' (first | apply And.intro | intro _)
    any_goals (first | (refine hR7 _ ?_; clear hR7) | (first | omega | (simp only [IntKind.wrap_i64] at *; omega) | (simp_all; done) | (simp_all; omega)))
    refine runs_cut 1 fun R8 hR8 => ?_
    try simp (maxSteps := 1000000) [runs, gd, step1, need, evu, un, opnds, opv, ev, cst, cst1, cstL, getT, getH, putT, onL, nxt, argT, cellsOf, PV.one, thn, inBlk, fldP, ldP, ldC, live, Cells.len, Cells.get, Cells.w, sug, ldv, bin, ops2, sh2, binv, Tk.agg, stC, apC, rdS, apS, mvL, zp, argsP, idx, fillP, toInts, chunks, mkC, ixS, ixA, oidx, slP, sl0, mxF, bltn, frzA, frz, frzL, frz1, pur1, Cells.pur, PV.scal, scal1, runD, rdO, PV.ids, id1, zids, ety, Eff.on, cnd, minb, and1b, ifmax, ifmin, mxv, sugI, w0, w1, w2, wm1, hcf, hcg, row_len, List.take_succ_cons, List.take_zero, List.drop_succ_cons, List.drop_zero]
    refine .inl ⟨_, containsFunc_ok xs _ far mid_odd_ok hx, ?_⟩
    try simp (maxSteps := 1000000) [runs, gd, step1, need, evu, un, opnds, opv, ev, cst, cst1, cstL, getT, getH, putT, onL, nxt, argT, cellsOf, PV.one, thn, inBlk, fldP, ldP, ldC, live, Cells.len, Cells.get, Cells.w, sug, ldv, bin, ops2, sh2, binv, Tk.agg, stC, apC, rdS, apS, mvL, zp, argsP, idx, fillP, toInts, chunks, mkC, ixS, ixA, oidx, slP, sl0, mxF, bltn, frzA, frz, frzL, frz1, pur1, Cells.pur, PV.scal, scal1, runD, rdO, PV.ids, id1, zids, ety, Eff.on, cnd, minb, and1b, ifmax, ifmin, mxv, sugI, w0, w1, w2, wm1, hcf, hcg, row_len]
    repeat' (first | apply And.intro | intro _)
    any_goals (first | (refine hR8 _ ?_; clear hR8) | (first | omega | (simp only [IntKind.wrap_i64] at *; omega) | (simp_all; done) | (simp_all; omega)))
    refine runs_cut 2 fun R9 hR9 => ?_
    try simp (maxSteps := 1000000) [runs, gd, step1, need, evu, un, opnds, opv, ev, cst, cst1, cstL, getT, getH, putT, onL, nxt, argT, cellsOf, PV.one, thn, inBlk, fldP, ldP, ldC, live, Cells.len, Cells.get, Cells.w, sug, ldv, bin, ops2, sh2, binv, Tk.agg, stC, apC, rdS, apS, mvL, zp, argsP, idx, fillP, toInts, chunks, mkC, ixS, ixA, oidx, slP, sl0, mxF, bltn, frzA, frz, frzL, frz1, pur1, Cells.pur, PV.scal, scal1, runD, rdO, PV.ids, id1, zids, ety, Eff.on, cnd, minb, and1b, ifmax, ifmin, mxv, sugI, w0, w1, w2, wm1, hcf, hcg, row_len, List.take_succ_cons, List.take_zero, List.drop_succ_cons, List.drop_zero]
    repeat' (first | apply And.intro | intro _)
    any_goals (first | (refine hR9 _ ?_; clear hR9) | (first | omega | (simp only [IntKind.wrap_i64] at *; omega) | (simp_all; done) | (simp_all; omega)))
    refine runs_cut 1 fun R10 hR10 => ?_
    try simp (maxSteps := 1000000) [runs, gd, step1, need, evu, un, opnds, opv, ev, cst, cst1, cstL, getT, getH, putT, onL, nxt, argT, cellsOf, PV.one, thn, inBlk, fldP, ldP, ldC, live, Cells.len, Cells.get, Cells.w, sug, ldv, bin, ops2, sh2, binv, Tk.agg, stC, apC, rdS, apS, mvL, zp, argsP, idx, fillP, toInts, chunks, mkC, ixS, ixA, oidx, slP, sl0, mxF, bltn, frzA, frz, frzL, frz1, pur1, Cells.pur, PV.scal, scal1, runD, rdO, PV.ids, id1, zids, ety, Eff.on, cnd, minb, and1b, ifmax, ifmin, mxv, sugI, w0, w1, w2, wm1, hcf, hcg, row_len, List.take_succ_cons, List.take_zero, List.drop_succ_cons, List.drop_zero]
    first | refine ⟨_, fun hb => .inl (containsFunc_ok ys _ far mid_odd_ok hy), ?_⟩ | refine ⟨_, .inl (containsFunc_ok ys _ far mid_odd_ok hy), ?_⟩ | refine ⟨_, fun hb => .inl ⟨_, containsFunc_ok ys _ far mid_odd_ok hy, by (try simp [runs, gd, step1, need, evu, un, opnds, opv, ev, cst, cst1, cstL, getT, getH, putT, onL, nxt, argT, cellsOf, PV.one, thn, inBlk, fldP, ldP, ldC, live, Cells.len, Cells.get, Cells.w, sug, ldv, bin, ops2, sh2, binv, Tk.agg, stC, apC, rdS, apS, mvL, zp, argsP, idx, fillP, toInts, chunks, mkC, ixS, ixA, oidx, slP, sl0, mxF, bltn, frzA, frz, frzL, frz1, pur1, Cells.pur, PV.scal, scal1, runD, rdO, PV.ids, id1, zids, ety, Eff.on, cnd, minb, and1b, ifmax, ifmin, mxv, sugI, w0, w1, w2, wm1]); exact ⟨rfl, rfl⟩⟩, ?_⟩
    repeat' (first | apply And.intro | intro _)
    any_goals (first | (refine hR10 _ ?_; clear hR10) | (first | omega | (simp only [IntKind.wrap_i64] at *; omega) | (simp_all; done) | (simp_all; omega)))
    try simp (maxSteps := 1000000) [runs, gd, step1, need, evu, un, opnds, opv, ev, cst, cst1, cstL, getT, getH, putT, onL, nxt, argT, cellsOf, PV.one, thn, inBlk, fldP, ldP, ldC, live, Cells.len, Cells.get, Cells.w, sug, ldv, bin, ops2, sh2, binv, Tk.agg, stC, apC, rdS, apS, mvL, zp, argsP, idx, fillP, toInts, chunks, mkC, ixS, ixA, oidx, slP, sl0, mxF, bltn, frzA, frz, frzL, frz1, pur1, Cells.pur, PV.scal, scal1, runD, rdO, PV.ids, id1, zids, ety, Eff.on, cnd, minb, and1b, ifmax, ifmin, mxv, sugI, w0, w1, w2, wm1, hcf, hcg, row_len, List.take_succ_cons, List.take_zero, List.drop_succ_cons, List.drop_zero]
    repeat' (first | apply And.intro | intro _)
    any_goals (first | (refine hK6 _ ?_; clear hK6) | (first | omega | (simp only [IntKind.wrap_i64] at *; omega) | (simp_all; done) | (simp_all; omega)))
    refine swp_if fun C11 hC11 => ?_
    try simp (maxSteps := 1000000) [runs, gd, step1, need, evu, un, opnds, opv, ev, cst, cst1, cstL, getT, getH, putT, onL, nxt, argT, cellsOf, PV.one, thn, inBlk, fldP, ldP, ldC, live, Cells.len, Cells.get, Cells.w, sug, ldv, bin, ops2, sh2, binv, Tk.agg, stC, apC, rdS, apS, mvL, zp, argsP, idx, fillP, toInts, chunks, mkC, ixS, ixA, oidx, slP, sl0, mxF, bltn, frzA, frz, frzL, frz1, pur1, Cells.pur, PV.scal, scal1, runD, rdO, PV.ids, id1, zids, ety, Eff.on, cnd, minb, and1b, ifmax, ifmin, mxv, sugI, w0, w1, w2, wm1, hcf, hcg, row_len]
    refine hC11 _ (fun hc11 => ?_) (fun hc11 => ?_)
    · clear hC11
      try simp at hc11
      refine swp_seq fun K12 hK12 => ?_
      refine swp_region ty_ok ?_
      try simp (maxSteps := 1000000) [runs, gd, step1, need, evu, un, opnds, opv, ev, cst, cst1, cstL, getT, getH, putT, onL, nxt, argT, cellsOf, PV.one, thn, inBlk, fldP, ldP, ldC, live, Cells.len, Cells.get, Cells.w, sug, ldv, bin, ops2, sh2, binv, Tk.agg, stC, apC, rdS, apS, mvL, zp, argsP, idx, fillP, toInts, chunks, mkC, ixS, ixA, oidx, slP, sl0, mxF, bltn, frzA, frz, frzL, frz1, pur1, Cells.pur, PV.scal, scal1, runD, rdO, PV.ids, id1, zids, ety, Eff.on, cnd, minb, and1b, ifmax, ifmin, mxv, sugI, w0, w1, w2, wm1, hcf, hcg, row_len]
      repeat' (first | apply And.intro | intro _)
      any_goals (first | (refine hK12 _ ?_; clear hK12) | (first | omega | (simp only [IntKind.wrap_i64] at *; omega) | (simp_all; done) | (simp_all; omega)))
      refine swp_ret ?_
      simp [runs, gd, step1, need, evu, un, opnds, opv, ev, cst, cst1, cstL, getT, getH, putT, onL, nxt, argT, cellsOf, PV.one, thn, inBlk, fldP, ldP, ldC, live, Cells.len, Cells.get, Cells.w, sug, ldv, bin, ops2, sh2, binv, Tk.agg, stC, apC, rdS, apS, mvL, zp, argsP, idx, fillP, toInts, chunks, mkC, ixS, ixA, oidx, slP, sl0, mxF, bltn, frzA, frz, frzL, frz1, pur1, Cells.pur, PV.scal, scal1, runD, rdO, PV.ids, id1, zids, ety, Eff.on, cnd, minb, and1b, ifmax, ifmin, mxv, sugI, w0, w1, w2, wm1, fnPost, Try.results30, resP, tupOf]
      rw [mEach, asked2' (by omega) (by omega) (by simpa using hc11)]; simp
    · clear hC11
      try simp at hc11
      refine swp_skip ?_
      simp only [thn, inBlk]
      refine hK2 _ ?_; clear hK2
      refine swp_seq fun K13 hK13 => ?_
      refine swp_region ty_ok ?_
      try simp (maxSteps := 1000000) [runs, gd, step1, need, evu, un, opnds, opv, ev, cst, cst1, cstL, getT, getH, putT, onL, nxt, argT, cellsOf, PV.one, thn, inBlk, fldP, ldP, ldC, live, Cells.len, Cells.get, Cells.w, sug, ldv, bin, ops2, sh2, binv, Tk.agg, stC, apC, rdS, apS, mvL, zp, argsP, idx, fillP, toInts, chunks, mkC, ixS, ixA, oidx, slP, sl0, mxF, bltn, frzA, frz, frzL, frz1, pur1, Cells.pur, PV.scal, scal1, runD, rdO, PV.ids, id1, zids, ety, Eff.on, cnd, minb, and1b, ifmax, ifmin, mxv, sugI, w0, w1, w2, wm1, hcf, hcg, row_len]
      repeat' (first | apply And.intro | intro _)
      any_goals (first | (refine hK13 _ ?_; clear hK13) | (first | omega | (simp only [IntKind.wrap_i64] at *; omega) | (simp_all; done) | (simp_all; omega)))
      refine swp_seq fun K14 hK14 => ?_
      refine swp_seq fun K15 hK15 => ?_
      refine swp_region ty_ok ?_
      try simp (maxSteps := 1000000) [runs, gd, step1, need, evu, un, opnds, opv, ev, cst, cst1, cstL, getT, getH, putT, onL, nxt, argT, cellsOf, PV.one, thn, inBlk, fldP, ldP, ldC, live, Cells.len, Cells.get, Cells.w, sug, ldv, bin, ops2, sh2, binv, Tk.agg, stC, apC, rdS, apS, mvL, zp, argsP, idx, fillP, toInts, chunks, mkC, ixS, ixA, oidx, slP, sl0, mxF, bltn, frzA, frz, frzL, frz1, pur1, Cells.pur, PV.scal, scal1, runD, rdO, PV.ids, id1, zids, ety, Eff.on, cnd, minb, and1b, ifmax, ifmin, mxv, sugI, w0, w1, w2, wm1, hcf, hcg, row_len]
      repeat' (first | apply And.intro | intro _)
      any_goals (first | (refine hK15 _ ?_; clear hK15) | (first | omega | (simp only [IntKind.wrap_i64] at *; omega) | (simp_all; done) | (simp_all; omega)))
      refine swp_block ?_
      refine swp_own 8 3 (by simp [getT]; rfl) rfl ?_
      refine swp_own 9 3 (by simp [getT]; rfl) rfl ?_
      refine swp_loop 2 (fun m_ s_ => ∃ (i : Nat), (i ≤ xs.length) ∧ (xs.length = ys.length) ∧ (xs.length ≤ 256) ∧ (xs.any far = false) ∧ (ys.any far = false) ∧ s_ = ⟨[(0, .ro (.ints .i64 xs)), (1, .ro (.ints .i64 ys)), (2, .fn f cf), (3, .fn g cg), (8, .sl 0 0 i i), (9, .sl 1 0 i i), (11, .fn 42 []), (32, .ro (.ints .i64 xs)), (33, .int .i64 (xs.length : Nat)), (34, .int .i64 (i : Nat))], [(0, some ⟨.ints .i64 (row (rowL F) xs ys i), false, 3⟩), (1, some ⟨.ints .i64 (row (rowL G) xs ys i), false, 3⟩)], 2⟩ ∧ m_ = xs.length - i) _ ⟨[(0, .ro (.ints .i64 xs)), (1, .ro (.ints .i64 ys)), (2, .fn f cf), (3, .fn g cg), (8, .sl 0 0 0 0), (9, .sl 1 0 0 0), (11, .fn 42 []), (32, .ro (.ints .i64 xs)), (33, .int .i64 (xs.length : Nat)), (34, .int .i64 (0 : Nat))], [(0, some ⟨.ints .i64 (row (rowL F) xs ys 0), false, 3⟩), (1, some ⟨.ints .i64 (row (rowL G) xs ys 0), false, 3⟩)], 2⟩ ⟨by (simp [getT, PV.lo, hlf, hlg]; simp [lo1]), by simp [getH, Blk.lo, Cells.lo, lo1, row], rfl, by omega⟩ ⟨(0), by (first | omega | (simp only [IntKind.wrap_i64] at *; omega) | (simp_all; done) | (simp_all; omega)), by (first | omega | (simp only [IntKind.wrap_i64] at *; omega) | (simp_all; done) | (simp_all; omega)), by (first | omega | (simp only [IntKind.wrap_i64] at *; omega) | (simp_all; done) | (simp_all; omega)), by (first | omega | (simp only [IntKind.wrap_i64] at *; omega) | (simp_all; done) | (simp_all; omega)), by (first | omega | (simp only [IntKind.wrap_i64] at *; omega) | (simp_all; done) | (simp_all; omega)), rfl, rfl⟩ ?_
      rintro m_ s_ ⟨i, hL16_0, hL16_1, hL16_2, hL16_3, hL16_4, rfl, rfl⟩ KL16 hL16
      have hw : IntKind.i64.wrap ((i : Int) + 1) = (((i + 1 : Nat)) : Int) := wnext (by omega)
      refine swp_seq fun K17 hK17 => ?_
      refine swp_region ty_ok ?_
      try simp (maxSteps := 1000000) [runs, gd, step1, need, evu, un, opnds, opv, ev, cst, cst1, cstL, getT, getH, putT, onL, nxt, argT, cellsOf, PV.one, thn, inBlk, fldP, ldP, ldC, live, Cells.len, Cells.get, Cells.w, sug, ldv, bin, ops2, sh2, binv, Tk.agg, stC, apC, rdS, apS, mvL, zp, argsP, idx, fillP, toInts, chunks, mkC, ixS, ixA, oidx, slP, sl0, mxF, bltn, frzA, frz, frzL, frz1, pur1, Cells.pur, PV.scal, scal1, runD, rdO, PV.ids, id1, zids, ety, Eff.on, cnd, minb, and1b, ifmax, ifmin, mxv, sugI, w0, w1, w2, wm1, hcf, hcg, row_len]
      repeat' (first | apply And.intro | intro _)
      any_goals (first | (refine hK17 _ ?_; clear hK17) | (first | omega | (simp only [IntKind.wrap_i64] at *; omega) | (simp_all; done) | (simp_all; omega)))
      refine swp_seq fun K18 hK18 => ?_
      refine swp_if fun C19 hC19 => ?_
      try simp (maxSteps := 1000000) [runs, gd, step1, need, evu, un, opnds, opv, ev, cst, cst1, cstL, getT, getH, putT, onL, nxt, argT, cellsOf, PV.one, thn, inBlk, fldP, ldP, ldC, live, Cells.len, Cells.get, Cells.w, sug, ldv, bin, ops2, sh2, binv, Tk.agg, stC, apC, rdS, apS, mvL, zp, argsP, idx, fillP, toInts, chunks, mkC, ixS, ixA, oidx, slP, sl0, mxF, bltn, frzA, frz, frzL, frz1, pur1, Cells.pur, PV.scal, scal1, runD, rdO, PV.ids, id1, zids, ety, Eff.on, cnd, minb, and1b, ifmax, ifmin, mxv, sugI, w0, w1, w2, wm1, hcf, hcg, row_len]
      refine hC19 _ (fun hc19 => ?_) (fun hc19 => ?_)
      · clear hC19
        try simp at hc19
        refine swp_skip ?_
        simp only [thn, inBlk]
        refine hK18 _ ?_; clear hK18
        refine swp_seq fun K20 hK20 => ?_
        refine swp_block ?_
        refine swp_seq fun K21 hK21 => ?_
        refine swp_region ty_ok ?_
        try simp (maxSteps := 1000000) [runs, gd, step1, need, evu, un, opnds, opv, ev, cst, cst1, cstL, getT, getH, putT, onL, nxt, argT, cellsOf, PV.one, thn, inBlk, fldP, ldP, ldC, live, Cells.len, Cells.get, Cells.w, sug, ldv, bin, ops2, sh2, binv, Tk.agg, stC, apC, rdS, apS, mvL, zp, argsP, idx, fillP, toInts, chunks, mkC, ixS, ixA, oidx, slP, sl0, mxF, bltn, frzA, frz, frzL, frz1, pur1, Cells.pur, PV.scal, scal1, runD, rdO, PV.ids, id1, zids, ety, Eff.on, cnd, minb, and1b, ifmax, ifmin, mxv, sugI, w0, w1, w2, wm1, hcf, hcg, row_len]
        repeat' (first | apply And.intro | intro _)
        any_goals (first | (refine hK21 _ ?_; clear hK21) | (first | omega | (simp only [IntKind.wrap_i64] at *; omega) | (simp_all; done) | (simp_all; omega)))
        refine swp_seq fun K22 hK22 => ?_
        refine swp_region ty_ok ?_
        refine runs_cut 8 fun R23 hR23 => ?_
        try simp (maxSteps := 1000000) [runs, gd, step1, need, evu, un, opnds, opv, ev, cst, cst1, cstL, getT, getH, putT, onL, nxt, argT, cellsOf, PV.one, thn, inBlk, fldP, ldP, ldC, live, Cells.len, Cells.get, Cells.w, sug, ldv, bin, ops2, sh2, binv, Tk.agg, stC, apC, rdS, apS, mvL, zp, argsP, idx, fillP, toInts, chunks, mkC, ixS, ixA, oidx, slP, sl0, mxF, bltn, frzA, frz, frzL, frz1, pur1, Cells.pur, PV.scal, scal1, runD, rdO, PV.ids, id1, zids, ety, Eff.on, cnd, minb, and1b, ifmax, ifmin, mxv, sugI, w0, w1, w2, wm1, hcf, hcg, row_len, List.take_succ_cons, List.take_zero, List.drop_succ_cons, List.drop_zero]
        repeat' (first | apply And.intro | intro _)
        any_goals (first | (refine hR23 _ ?_; clear hR23) | (first | omega | (simp only [IntKind.wrap_i64] at *; omega) | (simp_all; done) | (simp_all; omega)))
        refine runs_cut 1 fun R24 hR24 => ?_
        try simp (maxSteps := 1000000) [runs, gd, step1, need, evu, un, opnds, opv, ev, cst, cst1, cstL, getT, getH, putT, onL, nxt, argT, cellsOf, PV.one, thn, inBlk, fldP, ldP, ldC, live, Cells.len, Cells.get, Cells.w, sug, ldv, bin, ops2, sh2, binv, Tk.agg, stC, apC, rdS, apS, mvL, zp, argsP, idx, fillP, toInts, chunks, mkC, ixS, ixA, oidx, slP, sl0, mxF, bltn, frzA, frz, frzL, frz1, pur1, Cells.pur, PV.scal, scal1, runD, rdO, PV.ids, id1, zids, ety, Eff.on, cnd, minb, and1b, ifmax, ifmin, mxv, sugI, w0, w1, w2, wm1, hcf, hcg, row_len, List.take_succ_cons, List.take_zero, List.drop_succ_cons, List.drop_zero]
        refine .inl ⟨_, hf _ _, ?_⟩
        try simp (maxSteps := 1000000) [runs, gd, step1, need, evu, un, opnds, opv, ev, cst, cst1, cstL, getT, getH, putT, onL, nxt, argT, cellsOf, PV.one, thn, inBlk, fldP, ldP, ldC, live, Cells.len, Cells.get, Cells.w, sug, ldv, bin, ops2, sh2, binv, Tk.agg, stC, apC, rdS, apS, mvL, zp, argsP, idx, fillP, toInts, chunks, mkC, ixS, ixA, oidx, slP, sl0, mxF, bltn, frzA, frz, frzL, frz1, pur1, Cells.pur, PV.scal, scal1, runD, rdO, PV.ids, id1, zids, ety, Eff.on, cnd, minb, and1b, ifmax, ifmin, mxv, sugI, w0, w1, w2, wm1, hcf, hcg, row_len]
        repeat' (first | apply And.intro | intro _)
        any_goals (first | (refine hR24 _ ?_; clear hR24) | (first | omega | (simp only [IntKind.wrap_i64] at *; omega) | (simp_all; done) | (simp_all; omega)))
        refine runs_cut 1 fun R25 hR25 => ?_
        try simp (maxSteps := 1000000) [runs, gd, step1, need, evu, un, opnds, opv, ev, cst, cst1, cstL, getT, getH, putT, onL, nxt, argT, cellsOf, PV.one, thn, inBlk, fldP, ldP, ldC, live, Cells.len, Cells.get, Cells.w, sug, ldv, bin, ops2, sh2, binv, Tk.agg, stC, apC, rdS, apS, mvL, zp, argsP, idx, fillP, toInts, chunks, mkC, ixS, ixA, oidx, slP, sl0, mxF, bltn, frzA, frz, frzL, frz1, pur1, Cells.pur, PV.scal, scal1, runD, rdO, PV.ids, id1, zids, ety, Eff.on, cnd, minb, and1b, ifmax, ifmin, mxv, sugI, w0, w1, w2, wm1, hcf, hcg, row_len, List.take_succ_cons, List.take_zero, List.drop_succ_cons, List.drop_zero]
        refine .inl ⟨_, mid_each_1_ok _, ?_⟩
        try simp (maxSteps := 1000000) [runs, gd, step1, need, evu, un, opnds, opv, ev, cst, cst1, cstL, getT, getH, putT, onL, nxt, argT, cellsOf, PV.one, thn, inBlk, fldP, ldP, ldC, live, Cells.len, Cells.get, Cells.w, sug, ldv, bin, ops2, sh2, binv, Tk.agg, stC, apC, rdS, apS, mvL, zp, argsP, idx, fillP, toInts, chunks, mkC, ixS, ixA, oidx, slP, sl0, mxF, bltn, frzA, frz, frzL, frz1, pur1, Cells.pur, PV.scal, scal1, runD, rdO, PV.ids, id1, zids, ety, Eff.on, cnd, minb, and1b, ifmax, ifmin, mxv, sugI, w0, w1, w2, wm1, hcf, hcg, row_len]
        repeat' (first | apply And.intro | intro _)
        any_goals (first | (refine hR25 _ ?_; clear hR25) | (first | omega | (simp only [IntKind.wrap_i64] at *; omega) | (simp_all; done) | (simp_all; omega)))
        refine runs_cut 1 fun R26 hR26 => ?_
        try simp (maxSteps := 1000000) [runs, gd, step1, need, evu, un, opnds, opv, ev, cst, cst1, cstL, getT, getH, putT, onL, nxt, argT, cellsOf, PV.one, thn, inBlk, fldP, ldP, ldC, live, Cells.len, Cells.get, Cells.w, sug, ldv, bin, ops2, sh2, binv, Tk.agg, stC, apC, rdS, apS, mvL, zp, argsP, idx, fillP, toInts, chunks, mkC, ixS, ixA, oidx, slP, sl0, mxF, bltn, frzA, frz, frzL, frz1, pur1, Cells.pur, PV.scal, scal1, runD, rdO, PV.ids, id1, zids, ety, Eff.on, cnd, minb, and1b, ifmax, ifmin, mxv, sugI, w0, w1, w2, wm1, hcf, hcg, row_len, List.take_succ_cons, List.take_zero, List.drop_succ_cons, List.drop_zero]
        repeat' (first | apply And.intro | intro _)
        any_goals (first | (refine Or.inl (hR26 _ ?_); clear hR26) | (first | omega | (simp only [IntKind.wrap_i64] at *; omega) | (simp_all; done) | (simp_all; omega)))
        try simp (maxSteps := 1000000) [runs, gd, step1, need, evu, un, opnds, opv, ev, cst, cst1, cstL, getT, getH, putT, onL, nxt, argT, cellsOf, PV.one, thn, inBlk, fldP, ldP, ldC, live, Cells.len, Cells.get, Cells.w, sug, ldv, bin, ops2, sh2, binv, Tk.agg, stC, apC, rdS, apS, mvL, zp, argsP, idx, fillP, toInts, chunks, mkC, ixS, ixA, oidx, slP, sl0, mxF, bltn, frzA, frz, frzL, frz1, pur1, Cells.pur, PV.scal, scal1, runD, rdO, PV.ids, id1, zids, ety, Eff.on, cnd, minb, and1b, ifmax, ifmin, mxv, sugI, w0, w1, w2, wm1, hcf, hcg, row_len, List.take_succ_cons, List.take_zero, List.drop_succ_cons, List.drop_zero]
        repeat' (first | apply And.intro | intro _)
        any_goals (first | (refine hK22 _ ?_; clear hK22) | (first | omega | (simp only [IntKind.wrap_i64] at *; omega) | (simp_all; done) | (simp_all; omega)))
        refine swp_region ty_ok ?_
        refine runs_cut 8 fun R27 hR27 => ?_
        try simp (maxSteps := 1000000) [runs, gd, step1, need, evu, un, opnds, opv, ev, cst, cst1, cstL, getT, getH, putT, onL, nxt, argT, cellsOf, PV.one, thn, inBlk, fldP, ldP, ldC, live, Cells.len, Cells.get, Cells.w, sug, ldv, bin, ops2, sh2, binv, Tk.agg, stC, apC, rdS, apS, mvL, zp, argsP, idx, fillP, toInts, chunks, mkC, ixS, ixA, oidx, slP, sl0, mxF, bltn, frzA, frz, frzL, frz1, pur1, Cells.pur, PV.scal, scal1, runD, rdO, PV.ids, id1, zids, ety, Eff.on, cnd, minb, and1b, ifmax, ifmin, mxv, sugI, w0, w1, w2, wm1, hcf, hcg, row_len, List.take_succ_cons, List.take_zero, List.drop_succ_cons, List.drop_zero]
        repeat' (first | apply And.intro | intro _)
        any_goals (first | (refine hR27 _ ?_; clear hR27) | (first | omega | (simp only [IntKind.wrap_i64] at *; omega) | (simp_all; done) | (simp_all; omega)))
        refine runs_cut 1 fun R28 hR28 => ?_
        try simp (maxSteps := 1000000) [runs, gd, step1, need, evu, un, opnds, opv, ev, cst, cst1, cstL, getT, getH, putT, onL, nxt, argT, cellsOf, PV.one, thn, inBlk, fldP, ldP, ldC, live, Cells.len, Cells.get, Cells.w, sug, ldv, bin, ops2, sh2, binv, Tk.agg, stC, apC, rdS, apS, mvL, zp, argsP, idx, fillP, toInts, chunks, mkC, ixS, ixA, oidx, slP, sl0, mxF, bltn, frzA, frz, frzL, frz1, pur1, Cells.pur, PV.scal, scal1, runD, rdO, PV.ids, id1, zids, ety, Eff.on, cnd, minb, and1b, ifmax, ifmin, mxv, sugI, w0, w1, w2, wm1, hcf, hcg, row_len, List.take_succ_cons, List.take_zero, List.drop_succ_cons, List.drop_zero]
        refine .inl ⟨_, hg _ _, ?_⟩
        try simp (maxSteps := 1000000) [runs, gd, step1, need, evu, un, opnds, opv, ev, cst, cst1, cstL, getT, getH, putT, onL, nxt, argT, cellsOf, PV.one, thn, inBlk, fldP, ldP, ldC, live, Cells.len, Cells.get, Cells.w, sug, ldv, bin, ops2, sh2, binv, Tk.agg, stC, apC, rdS, apS, mvL, zp, argsP, idx, fillP, toInts, chunks, mkC, ixS, ixA, oidx, slP, sl0, mxF, bltn, frzA, frz, frzL, frz1, pur1, Cells.pur, PV.scal, scal1, runD, rdO, PV.ids, id1, zids, ety, Eff.on, cnd, minb, and1b, ifmax, ifmin, mxv, sugI, w0, w1, w2, wm1, hcf, hcg, row_len]
        repeat' (first | apply And.intro | intro _)
        any_goals (first | (refine hR28 _ ?_; clear hR28) | (first | omega | (simp only [IntKind.wrap_i64] at *; omega) | (simp_all; done) | (simp_all; omega)))
        refine runs_cut 1 fun R29 hR29 => ?_
        try simp (maxSteps := 1000000) [runs, gd, step1, need, evu, un, opnds, opv, ev, cst, cst1, cstL, getT, getH, putT, onL, nxt, argT, cellsOf, PV.one, thn, inBlk, fldP, ldP, ldC, live, Cells.len, Cells.get, Cells.w, sug, ldv, bin, ops2, sh2, binv, Tk.agg, stC, apC, rdS, apS, mvL, zp, argsP, idx, fillP, toInts, chunks, mkC, ixS, ixA, oidx, slP, sl0, mxF, bltn, frzA, frz, frzL, frz1, pur1, Cells.pur, PV.scal, scal1, runD, rdO, PV.ids, id1, zids, ety, Eff.on, cnd, minb, and1b, ifmax, ifmin, mxv, sugI, w0, w1, w2, wm1, hcf, hcg, row_len, List.take_succ_cons, List.take_zero, List.drop_succ_cons, List.drop_zero]
        refine .inl ⟨_, mid_each_1_ok _, ?_⟩
        try simp (maxSteps := 1000000) [runs, gd, step1, need, evu, un, opnds, opv, ev, cst, cst1, cstL, getT, getH, putT, onL, nxt, argT, cellsOf, PV.one, thn, inBlk, fldP, ldP, ldC, live, Cells.len, Cells.get, Cells.w, sug, ldv, bin, ops2, sh2, binv, Tk.agg, stC, apC, rdS, apS, mvL, zp, argsP, idx, fillP, toInts, chunks, mkC, ixS, ixA, oidx, slP, sl0, mxF, bltn, frzA, frz, frzL, frz1, pur1, Cells.pur, PV.scal, scal1, runD, rdO, PV.ids, id1, zids, ety, Eff.on, cnd, minb, and1b, ifmax, ifmin, mxv, sugI, w0, w1, w2, wm1, hcf, hcg, row_len]
        repeat' (first | apply And.intro | intro _)
        any_goals (first | (refine hR29 _ ?_; clear hR29) | (first | omega | (simp only [IntKind.wrap_i64] at *; omega) | (simp_all; done) | (simp_all; omega)))
        refine runs_cut 1 fun R30 hR30 => ?_
        try simp (maxSteps := 1000000) [runs, gd, step1, need, evu, un, opnds, opv, ev, cst, cst1, cstL, getT, getH, putT, onL, nxt, argT, cellsOf, PV.one, thn, inBlk, fldP, ldP, ldC, live, Cells.len, Cells.get, Cells.w, sug, ldv, bin, ops2, sh2, binv, Tk.agg, stC, apC, rdS, apS, mvL, zp, argsP, idx, fillP, toInts, chunks, mkC, ixS, ixA, oidx, slP, sl0, mxF, bltn, frzA, frz, frzL, frz1, pur1, Cells.pur, PV.scal, scal1, runD, rdO, PV.ids, id1, zids, ety, Eff.on, cnd, minb, and1b, ifmax, ifmin, mxv, sugI, w0, w1, w2, wm1, hcf, hcg, row_len, List.take_succ_cons, List.take_zero, List.drop_succ_cons, List.drop_zero]
        repeat' (first | apply And.intro | intro _)
        any_goals (first | (refine Or.inl (hR30 _ ?_); clear hR30) | (first | omega | (simp only [IntKind.wrap_i64] at *; omega) | (simp_all; done) | (simp_all; omega)))
        try simp (maxSteps := 1000000) [runs, gd, step1, need, evu, un, opnds, opv, ev, cst, cst1, cstL, getT, getH, putT, onL, nxt, argT, cellsOf, PV.one, thn, inBlk, fldP, ldP, ldC, live, Cells.len, Cells.get, Cells.w, sug, ldv, bin, ops2, sh2, binv, Tk.agg, stC, apC, rdS, apS, mvL, zp, argsP, idx, fillP, toInts, chunks, mkC, ixS, ixA, oidx, slP, sl0, mxF, bltn, frzA, frz, frzL, frz1, pur1, Cells.pur, PV.scal, scal1, runD, rdO, PV.ids, id1, zids, ety, Eff.on, cnd, minb, and1b, ifmax, ifmin, mxv, sugI, w0, w1, w2, wm1, hcf, hcg, row_len, List.take_succ_cons, List.take_zero, List.drop_succ_cons, List.drop_zero]
        repeat' (first | apply And.intro | intro _)
        any_goals (first | (refine hK20 _ ?_; clear hK20) | (first | omega | (simp only [IntKind.wrap_i64] at *; omega) | (simp_all; done) | (simp_all; omega)))
        refine swp_region ty_ok ?_
        try simp (maxSteps := 1000000) [runs, gd, step1, need, evu, un, opnds, opv, ev, cst, cst1, cstL, getT, getH, putT, onL, nxt, argT, cellsOf, PV.one, thn, inBlk, fldP, ldP, ldC, live, Cells.len, Cells.get, Cells.w, sug, ldv, bin, ops2, sh2, binv, Tk.agg, stC, apC, rdS, apS, mvL, zp, argsP, idx, fillP, toInts, chunks, mkC, ixS, ixA, oidx, slP, sl0, mxF, bltn, frzA, frz, frzL, frz1, pur1, Cells.pur, PV.scal, scal1, runD, rdO, PV.ids, id1, zids, ety, Eff.on, cnd, minb, and1b, ifmax, ifmin, mxv, sugI, w0, w1, w2, wm1, hcf, hcg, row_len]
        refine hL16 _ ⟨[(0, .ro (.ints .i64 xs)), (1, .ro (.ints .i64 ys)), (2, .fn f cf), (3, .fn g cg), (8, .sl 0 0 (i + 1) (i + 1)), (9, .sl 1 0 (i + 1) (i + 1)), (11, .fn 42 []), (32, .ro (.ints .i64 xs)), (33, .int .i64 (xs.length : Nat)), (34, .int .i64 ((i + 1) : Nat))], [(0, some ⟨.ints .i64 (row (rowL F) xs ys (i + 1)), false, 3⟩), (1, some ⟨.ints .i64 (row (rowL G) xs ys (i + 1)), false, 3⟩)], 2⟩ _ ?_ ⟨(i + 1), by (first | omega | (simp only [IntKind.wrap_i64] at *; omega) | (simp_all; done) | (simp_all; omega)), by (first | omega | (simp only [IntKind.wrap_i64] at *; omega) | (simp_all; done) | (simp_all; omega)), by (first | omega | (simp only [IntKind.wrap_i64] at *; omega) | (simp_all; done) | (simp_all; omega)), by (first | omega | (simp only [IntKind.wrap_i64] at *; omega) | (simp_all; done) | (simp_all; omega)), by (first | omega | (simp only [IntKind.wrap_i64] at *; omega) | (simp_all; done) | (simp_all; omega)), rfl, rfl⟩ ⟨by (simp [getT, PV.lo, hw, hlf, hlg]; simp [lo1]), by simp [getH, Blk.lo, Cells.lo, lo1, row_succ, rowL], rfl, by omega⟩
        omega
      · clear hC19
        try simp at hc19
        refine swp_exit ?_
        simp [thn, inBlk]
        refine hK14 _ ?_; clear hK14
        refine swp_seq fun K31 hK31 => ?_
        refine swp_region ty_ok ?_
        try simp (maxSteps := 1000000) [runs, gd, step1, need, evu, un, opnds, opv, ev, cst, cst1, cstL, getT, getH, putT, onL, nxt, argT, cellsOf, PV.one, thn, inBlk, fldP, ldP, ldC, live, Cells.len, Cells.get, Cells.w, sug, ldv, bin, ops2, sh2, binv, Tk.agg, stC, apC, rdS, apS, mvL, zp, argsP, idx, fillP, toInts, chunks, mkC, ixS, ixA, oidx, slP, sl0, mxF, bltn, frzA, frz, frzL, frz1, pur1, Cells.pur, PV.scal, scal1, runD, rdO, PV.ids, id1, zids, ety, Eff.on, cnd, minb, and1b, ifmax, ifmin, mxv, sugI, w0, w1, w2, wm1, hcf, hcg, row_len]
        repeat' (first | apply And.intro | intro _)
        any_goals (first | (refine hK31 _ ?_; clear hK31) | (first | omega | (simp only [IntKind.wrap_i64] at *; omega) | (simp_all; done) | (simp_all; omega)))
        refine swp_ret ?_
        simp [runs, gd, step1, need, evu, un, opnds, opv, ev, cst, cst1, cstL, getT, getH, putT, onL, nxt, argT, cellsOf, PV.one, thn, inBlk, fldP, ldP, ldC, live, Cells.len, Cells.get, Cells.w, sug, ldv, bin, ops2, sh2, binv, Tk.agg, stC, apC, rdS, apS, mvL, zp, argsP, idx, fillP, toInts, chunks, mkC, ixS, ixA, oidx, slP, sl0, mxF, bltn, frzA, frz, frzL, frz1, pur1, Cells.pur, PV.scal, scal1, runD, rdO, PV.ids, id1, zids, ety, Eff.on, cnd, minb, and1b, ifmax, ifmin, mxv, sugI, w0, w1, w2, wm1, fnPost, Try.results30, resP, tupOf]
        have hi : i = xs.length := by omega
        subst hi
        rw [mEach, asked0' (by assumption) (by assumption) (by assumption) (by assumption)]; simp [row_len]

theorem mid_Join_ok (xs ys : List Int) (hx : xs.length ≤ 140737488355328) (hy : ys.length ≤ 140737488355328) : PCall Try.prog 16 [.ro (.ints .i64 xs), .ro (.ints .i64 ys)] (.tup [.ro (.ints .i64 (mEach mAdd mSub xs ys).1), .ro (.ints .i64 (mEach mAdd mSub xs ys).2.1), .int .i64 (mEach mAdd mSub xs ys).2.2]) := by
  refine pcall_body ty_ok Try.func16 rfl (by rfl) (by simp) ?_
  rw [Try.ntmps16]
  refine swp_seq fun K1 hK1 => ?_
  refine swp_region ty_ok ?_
  try simp (maxSteps := 1000000) [runs, gd, step1, need, evu, un, opnds, opv, ev, cst, cst1, cstL, getT, getH, putT, onL, nxt, argT, cellsOf, PV.one, thn, inBlk, fldP, ldP, ldC, live, Cells.len, Cells.get, Cells.w, sug, ldv, bin, ops2, sh2, binv, Tk.agg, stC, apC, rdS, apS, mvL, zp, argsP, idx, fillP, toInts, chunks, mkC, ixS, ixA, oidx, slP, sl0, mxF, bltn, frzA, frz, frzL, frz1, pur1, Cells.pur, PV.scal, scal1, runD, rdO, PV.ids, id1, zids, ety, Eff.on, cnd, minb, and1b, ifmax, ifmin, mxv, sugI, w0, w1, w2, wm1]
  repeat' (first | apply And.intro | intro _)
  any_goals (first | (refine hK1 _ ?_; clear hK1) | (first | omega | (simp only [IntKind.wrap_i64] at *; omega) | (simp_all; done) | (simp_all; omega)))
  refine swp_seq fun K2 hK2 => ?_
  refine swp_region ty_ok ?_
  refine runs_cut 2 fun R3 hR3 => ?_
  try simp (maxSteps := 1000000) [runs, gd, step1, need, evu, un, opnds, opv, ev, cst, cst1, cstL, getT, getH, putT, onL, nxt, argT, cellsOf, PV.one, thn, inBlk, fldP, ldP, ldC, live, Cells.len, Cells.get, Cells.w, sug, ldv, bin, ops2, sh2, binv, Tk.agg, stC, apC, rdS, apS, mvL, zp, argsP, idx, fillP, toInts, chunks, mkC, ixS, ixA, oidx, slP, sl0, mxF, bltn, frzA, frz, frzL, frz1, pur1, Cells.pur, PV.scal, scal1, runD, rdO, PV.ids, id1, zids, ety, Eff.on, cnd, minb, and1b, ifmax, ifmin, mxv, sugI, w0, w1, w2, wm1, List.take_succ_cons, List.take_zero, List.drop_succ_cons, List.drop_zero]
  repeat' (first | apply And.intro | intro _)
  any_goals (first | (refine hR3 _ ?_; clear hR3) | (first | omega | (simp only [IntKind.wrap_i64] at *; omega) | (simp_all; done) | (simp_all; omega)))
  refine runs_cut 1 fun R4 hR4 => ?_
  try simp (maxSteps := 1000000) [runs, gd, step1, need, evu, un, opnds, opv, ev, cst, cst1, cstL, getT, getH, putT, onL, nxt, argT, cellsOf, PV.one, thn, inBlk, fldP, ldP, ldC, live, Cells.len, Cells.get, Cells.w, sug, ldv, bin, ops2, sh2, binv, Tk.agg, stC, apC, rdS, apS, mvL, zp, argsP, idx, fillP, toInts, chunks, mkC, ixS, ixA, oidx, slP, sl0, mxF, bltn, frzA, frz, frzL, frz1, pur1, Cells.pur, PV.scal, scal1, runD, rdO, PV.ids, id1, zids, ety, Eff.on, cnd, minb, and1b, ifmax, ifmin, mxv, sugI, w0, w1, w2, wm1, List.take_succ_cons, List.take_zero, List.drop_succ_cons, List.drop_zero]
  refine .inl ⟨_, mid_each_ok xs ys _ _ [] [] mAdd mSub mid_plus_ok mid_minus_ok (fun _ _ => rfl) (fun _ _ => rfl) (by simp) (by simp) hx hy, ?_⟩
  try simp (maxSteps := 1000000) [runs, gd, step1, need, evu, un, opnds, opv, ev, cst, cst1, cstL, getT, getH, putT, onL, nxt, argT, cellsOf, PV.one, thn, inBlk, fldP, ldP, ldC, live, Cells.len, Cells.get, Cells.w, sug, ldv, bin, ops2, sh2, binv, Tk.agg, stC, apC, rdS, apS, mvL, zp, argsP, idx, fillP, toInts, chunks, mkC, ixS, ixA, oidx, slP, sl0, mxF, bltn, frzA, frz, frzL, frz1, pur1, Cells.pur, PV.scal, scal1, runD, rdO, PV.ids, id1, zids, ety, Eff.on, cnd, minb, and1b, ifmax, ifmin, mxv, sugI, w0, w1, w2, wm1]
  repeat' (first | apply And.intro | intro _)
  any_goals (first | (refine hR4 _ ?_; clear hR4) | (first | omega | (simp only [IntKind.wrap_i64] at *; omega) | (simp_all; done) | (simp_all; omega)))
  try simp (maxSteps := 1000000) [runs, gd, step1, need, evu, un, opnds, opv, ev, cst, cst1, cstL, getT, getH, putT, onL, nxt, argT, cellsOf, PV.one, thn, inBlk, fldP, ldP, ldC, live, Cells.len, Cells.get, Cells.w, sug, ldv, bin, ops2, sh2, binv, Tk.agg, stC, apC, rdS, apS, mvL, zp, argsP, idx, fillP, toInts, chunks, mkC, ixS, ixA, oidx, slP, sl0, mxF, bltn, frzA, frz, frzL, frz1, pur1, Cells.pur, PV.scal, scal1, runD, rdO, PV.ids, id1, zids, ety, Eff.on, cnd, minb, and1b, ifmax, ifmin, mxv, sugI, w0, w1, w2, wm1, List.take_succ_cons, List.take_zero, List.drop_succ_cons, List.drop_zero]
  repeat' (first | apply And.intro | intro _)
  any_goals (first | (refine hK2 _ ?_; clear hK2) | (first | omega | (simp only [IntKind.wrap_i64] at *; omega) | (simp_all; done) | (simp_all; omega)))
  refine swp_ret ?_
  simp [runs, gd, step1, need, evu, un, opnds, opv, ev, cst, cst1, cstL, getT, getH, putT, onL, nxt, argT, cellsOf, PV.one, thn, inBlk, fldP, ldP, ldC, live, Cells.len, Cells.get, Cells.w, sug, ldv, bin, ops2, sh2, binv, Tk.agg, stC, apC, rdS, apS, mvL, zp, argsP, idx, fillP, toInts, chunks, mkC, ixS, ixA, oidx, slP, sl0, mxF, bltn, frzA, frz, frzL, frz1, pur1, Cells.pur, PV.scal, scal1, runD, rdO, PV.ids, id1, zids, ety, Eff.on, cnd, minb, and1b, ifmax, ifmin, mxv, sugI, w0, w1, w2, wm1, fnPost, Try.results16, resP, tupOf]

theorem mid_Split_ok (xs ys : List Int) (hx : xs.length ≤ 140737488355328) (hy : ys.length ≤ 140737488355328) : PCall Try.prog 17 [.ro (.ints .i64 xs), .ro (.ints .i64 ys)] (.tup [.ro (.ints .i64 (mEach (mHalf mAdd) (mHalf mSub) xs ys).1), .ro (.ints .i64 (mEach (mHalf mAdd) (mHalf mSub) xs ys).2.1), .int .i64 (mEach (mHalf mAdd) (mHalf mSub) xs ys).2.2]) := by
  refine pcall_body ty_ok Try.func17 rfl (by rfl) (by simp) ?_
  rw [Try.ntmps17]
  refine swp_seq fun K1 hK1 => ?_
  refine swp_region ty_ok ?_
  try simp (maxSteps := 1000000) [runs, gd, step1, need, evu, un, opnds, opv, ev, cst, cst1, cstL, getT, getH, putT, onL, nxt, argT, cellsOf, PV.one, thn, inBlk, fldP, ldP, ldC, live, Cells.len, Cells.get, Cells.w, sug, ldv, bin, ops2, sh2, binv, Tk.agg, stC, apC, rdS, apS, mvL, zp, argsP, idx, fillP, toInts, chunks, mkC, ixS, ixA, oidx, slP, sl0, mxF, bltn, frzA, frz, frzL, frz1, pur1, Cells.pur, PV.scal, scal1, runD, rdO, PV.ids, id1, zids, ety, Eff.on, cnd, minb, and1b, ifmax, ifmin, mxv, sugI, w0, w1, w2, wm1]
  repeat' (first | apply And.intro | intro _)
  any_goals (first | (refine hK1 _ ?_; clear hK1) | (first | omega | (simp only [IntKind.wrap_i64] at *; omega) | (simp_all; done) | (simp_all; omega)))
  refine swp_seq fun K2 hK2 => ?_
  refine swp_region ty_ok ?_
  refine runs_cut 2 fun R3 hR3 => ?_
  try simp (maxSteps := 1000000) [runs, gd, step1, need, evu, un, opnds, opv, ev, cst, cst1, cstL, getT, getH, putT, onL, nxt, argT, cellsOf, PV.one, thn, inBlk, fldP, ldP, ldC, live, Cells.len, Cells.get, Cells.w, sug, ldv, bin, ops2, sh2, binv, Tk.agg, stC, apC, rdS, apS, mvL, zp, argsP, idx, fillP, toInts, chunks, mkC, ixS, ixA, oidx, slP, sl0, mxF, bltn, frzA, frz, frzL, frz1, pur1, Cells.pur, PV.scal, scal1, runD, rdO, PV.ids, id1, zids, ety, Eff.on, cnd, minb, and1b, ifmax, ifmin, mxv, sugI, w0, w1, w2, wm1, List.take_succ_cons, List.take_zero, List.drop_succ_cons, List.drop_zero]
  repeat' (first | apply And.intro | intro _)
  any_goals (first | (refine hR3 _ ?_; clear hR3) | (first | omega | (simp only [IntKind.wrap_i64] at *; omega) | (simp_all; done) | (simp_all; omega)))
  refine runs_cut 1 fun R4 hR4 => ?_
  try simp (maxSteps := 1000000) [runs, gd, step1, need, evu, un, opnds, opv, ev, cst, cst1, cstL, getT, getH, putT, onL, nxt, argT, cellsOf, PV.one, thn, inBlk, fldP, ldP, ldC, live, Cells.len, Cells.get, Cells.w, sug, ldv, bin, ops2, sh2, binv, Tk.agg, stC, apC, rdS, apS, mvL, zp, argsP, idx, fillP, toInts, chunks, mkC, ixS, ixA, oidx, slP, sl0, mxF, bltn, frzA, frz, frzL, frz1, pur1, Cells.pur, PV.scal, scal1, runD, rdO, PV.ids, id1, zids, ety, Eff.on, cnd, minb, and1b, ifmax, ifmin, mxv, sugI, w0, w1, w2, wm1, List.take_succ_cons, List.take_zero, List.drop_succ_cons, List.drop_zero]
  refine .inl ⟨_, mid_halved_ok _, ?_⟩
  try simp (maxSteps := 1000000) [runs, gd, step1, need, evu, un, opnds, opv, ev, cst, cst1, cstL, getT, getH, putT, onL, nxt, argT, cellsOf, PV.one, thn, inBlk, fldP, ldP, ldC, live, Cells.len, Cells.get, Cells.w, sug, ldv, bin, ops2, sh2, binv, Tk.agg, stC, apC, rdS, apS, mvL, zp, argsP, idx, fillP, toInts, chunks, mkC, ixS, ixA, oidx, slP, sl0, mxF, bltn, frzA, frz, frzL, frz1, pur1, Cells.pur, PV.scal, scal1, runD, rdO, PV.ids, id1, zids, ety, Eff.on, cnd, minb, and1b, ifmax, ifmin, mxv, sugI, w0, w1, w2, wm1]
  repeat' (first | apply And.intro | intro _)
  any_goals (first | (refine hR4 _ ?_; clear hR4) | (first | omega | (simp only [IntKind.wrap_i64] at *; omega) | (simp_all; done) | (simp_all; omega)))
  refine runs_cut 1 fun R5 hR5 => ?_
  try simp (maxSteps := 1000000) [runs, gd, step1, need, evu, un, opnds, opv, ev, cst, cst1, cstL, getT, getH, putT, onL, nxt, argT, cellsOf, PV.one, thn, inBlk, fldP, ldP, ldC, live, Cells.len, Cells.get, Cells.w, sug, ldv, bin, ops2, sh2, binv, Tk.agg, stC, apC, rdS, apS, mvL, zp, argsP, idx, fillP, toInts, chunks, mkC, ixS, ixA, oidx, slP, sl0, mxF, bltn, frzA, frz, frzL, frz1, pur1, Cells.pur, PV.scal, scal1, runD, rdO, PV.ids, id1, zids, ety, Eff.on, cnd, minb, and1b, ifmax, ifmin, mxv, sugI, w0, w1, w2, wm1, List.take_succ_cons, List.take_zero, List.drop_succ_cons, List.drop_zero]
  refine .inl ⟨_, mid_halved_ok _, ?_⟩
  try simp (maxSteps := 1000000) [runs, gd, step1, need, evu, un, opnds, opv, ev, cst, cst1, cstL, getT, getH, putT, onL, nxt, argT, cellsOf, PV.one, thn, inBlk, fldP, ldP, ldC, live, Cells.len, Cells.get, Cells.w, sug, ldv, bin, ops2, sh2, binv, Tk.agg, stC, apC, rdS, apS, mvL, zp, argsP, idx, fillP, toInts, chunks, mkC, ixS, ixA, oidx, slP, sl0, mxF, bltn, frzA, frz, frzL, frz1, pur1, Cells.pur, PV.scal, scal1, runD, rdO, PV.ids, id1, zids, ety, Eff.on, cnd, minb, and1b, ifmax, ifmin, mxv, sugI, w0, w1, w2, wm1]
  repeat' (first | apply And.intro | intro _)
  any_goals (first | (refine hR5 _ ?_; clear hR5) | (first | omega | (simp only [IntKind.wrap_i64] at *; omega) | (simp_all; done) | (simp_all; omega)))
  refine runs_cut 1 fun R6 hR6 => ?_
  try simp (maxSteps := 1000000) [runs, gd, step1, need, evu, un, opnds, opv, ev, cst, cst1, cstL, getT, getH, putT, onL, nxt, argT, cellsOf, PV.one, thn, inBlk, fldP, ldP, ldC, live, Cells.len, Cells.get, Cells.w, sug, ldv, bin, ops2, sh2, binv, Tk.agg, stC, apC, rdS, apS, mvL, zp, argsP, idx, fillP, toInts, chunks, mkC, ixS, ixA, oidx, slP, sl0, mxF, bltn, frzA, frz, frzL, frz1, pur1, Cells.pur, PV.scal, scal1, runD, rdO, PV.ids, id1, zids, ety, Eff.on, cnd, minb, and1b, ifmax, ifmin, mxv, sugI, w0, w1, w2, wm1, List.take_succ_cons, List.take_zero, List.drop_succ_cons, List.drop_zero]
  refine .inl ⟨_, mid_each_ok xs ys _ _ _ _ (mHalf mAdd) (mHalf mSub) (fun a b => mid_halved_1_ok a b _ mAdd mid_plus_ok) (fun a b => mid_halved_1_ok a b _ mSub mid_minus_ok) (fun _ _ => rfl) (fun _ _ => rfl) (by simp [lo1]) (by simp [lo1]) hx hy, ?_⟩
  try simp (maxSteps := 1000000) [runs, gd, step1, need, evu, un, opnds, opv, ev, cst, cst1, cstL, getT, getH, putT, onL, nxt, argT, cellsOf, PV.one, thn, inBlk, fldP, ldP, ldC, live, Cells.len, Cells.get, Cells.w, sug, ldv, bin, ops2, sh2, binv, Tk.agg, stC, apC, rdS, apS, mvL, zp, argsP, idx, fillP, toInts, chunks, mkC, ixS, ixA, oidx, slP, sl0, mxF, bltn, frzA, frz, frzL, frz1, pur1, Cells.pur, PV.scal, scal1, runD, rdO, PV.ids, id1, zids, ety, Eff.on, cnd, minb, and1b, ifmax, ifmin, mxv, sugI, w0, w1, w2, wm1]
  repeat' (first | apply And.intro | intro _)
  any_goals (first | (refine hR6 _ ?_; clear hR6) | (first | omega | (simp only [IntKind.wrap_i64] at *; omega) | (simp_all; done) | (simp_all; omega)))
  try simp (maxSteps := 1000000) [runs, gd, step1, need, evu, un, opnds, opv, ev, cst, cst1, cstL, getT, getH, putT, onL, nxt, argT, cellsOf, PV.one, thn, inBlk, fldP, ldP, ldC, live, Cells.len, Cells.get, Cells.w, sug, ldv, bin, ops2, sh2, binv, Tk.agg, stC, apC, rdS, apS, mvL, zp, argsP, idx, fillP, toInts, chunks, mkC, ixS, ixA, oidx, slP, sl0, mxF, bltn, frzA, frz, frzL, frz1, pur1, Cells.pur, PV.scal, scal1, runD, rdO, PV.ids, id1, zids, ety, Eff.on, cnd, minb, and1b, ifmax, ifmin, mxv, sugI, w0, w1, w2, wm1, List.take_succ_cons, List.take_zero, List.drop_succ_cons, List.drop_zero]
  repeat' (first | apply And.intro | intro _)
  any_goals (first | (refine hK2 _ ?_; clear hK2) | (first | omega | (simp only [IntKind.wrap_i64] at *; omega) | (simp_all; done) | (simp_all; omega)))
  refine swp_ret ?_
  simp [runs, gd, step1, need, evu, un, opnds, opv, ev, cst, cst1, cstL, getT, getH, putT, onL, nxt, argT, cellsOf, PV.one, thn, inBlk, fldP, ldP, ldC, live, Cells.len, Cells.get, Cells.w, sug, ldv, bin, ops2, sh2, binv, Tk.agg, stC, apC, rdS, apS, mvL, zp, argsP, idx, fillP, toInts, chunks, mkC, ixS, ixA, oidx, slP, sl0, mxF, bltn, frzA, frz, frzL, frz1, pur1, Cells.pur, PV.scal, scal1, runD, rdO, PV.ids, id1, zids, ety, Eff.on, cnd, minb, and1b, ifmax, ifmin, mxv, sugI, w0, w1, w2, wm1, fnPost, Try.results17, resP, tupOf]

theorem reedpipelaw17_alive_ok  : PCall Try.prog 18 [] (.bool true) := by
  refine pcall_body ty_ok Try.func18 rfl (by rfl) (by simp) ?_
  rw [Try.ntmps18]
  refine swp_seq fun K1 hK1 => ?_
  refine swp_region ty_ok ?_
  try simp (maxSteps := 1000000) [runs, gd, step1, need, evu, un, opnds, opv, ev, cst, cst1, cstL, getT, getH, putT, onL, nxt, argT, cellsOf, PV.one, thn, inBlk, fldP, ldP, ldC, live, Cells.len, Cells.get, Cells.w, sug, ldv, bin, ops2, sh2, binv, Tk.agg, stC, apC, rdS, apS, mvL, zp, argsP, idx, fillP, toInts, chunks, mkC, ixS, ixA, oidx, slP, sl0, mxF, bltn, frzA, frz, frzL, frz1, pur1, Cells.pur, PV.scal, scal1, runD, rdO, PV.ids, id1, zids, ety, Eff.on, cnd, minb, and1b, ifmax, ifmin, mxv, sugI, w0, w1, w2, wm1]
  repeat' (first | apply And.intro | intro _)
  any_goals (first | (refine hK1 _ ?_; clear hK1) | (first | omega | (simp only [IntKind.wrap_i64] at *; omega) | (simp_all; done) | (simp_all; omega)))
  refine swp_seq fun K2 hK2 => ?_
  refine swp_region ty_ok ?_
  refine runs_cut 1 fun R3 hR3 => ?_
  try simp (maxSteps := 1000000) [runs, gd, step1, need, evu, un, opnds, opv, ev, cst, cst1, cstL, getT, getH, putT, onL, nxt, argT, cellsOf, PV.one, thn, inBlk, fldP, ldP, ldC, live, Cells.len, Cells.get, Cells.w, sug, ldv, bin, ops2, sh2, binv, Tk.agg, stC, apC, rdS, apS, mvL, zp, argsP, idx, fillP, toInts, chunks, mkC, ixS, ixA, oidx, slP, sl0, mxF, bltn, frzA, frz, frzL, frz1, pur1, Cells.pur, PV.scal, scal1, runD, rdO, PV.ids, id1, zids, ety, Eff.on, cnd, minb, and1b, ifmax, ifmin, mxv, sugI, w0, w1, w2, wm1, List.take_succ_cons, List.take_zero, List.drop_succ_cons, List.drop_zero]
  repeat' (first | apply And.intro | intro _)
  any_goals (first | (refine Or.inl (hR3 _ ?_); clear hR3) | (first | omega | (simp only [IntKind.wrap_i64] at *; omega) | (simp_all; done) | (simp_all; omega)))
  refine runs_cut 1 fun R4 hR4 => ?_
  try simp (maxSteps := 1000000) [runs, gd, step1, need, evu, un, opnds, opv, ev, cst, cst1, cstL, getT, getH, putT, onL, nxt, argT, cellsOf, PV.one, thn, inBlk, fldP, ldP, ldC, live, Cells.len, Cells.get, Cells.w, sug, ldv, bin, ops2, sh2, binv, Tk.agg, stC, apC, rdS, apS, mvL, zp, argsP, idx, fillP, toInts, chunks, mkC, ixS, ixA, oidx, slP, sl0, mxF, bltn, frzA, frz, frzL, frz1, pur1, Cells.pur, PV.scal, scal1, runD, rdO, PV.ids, id1, zids, ety, Eff.on, cnd, minb, and1b, ifmax, ifmin, mxv, sugI, w0, w1, w2, wm1, List.take_succ_cons, List.take_zero, List.drop_succ_cons, List.drop_zero]
  repeat' (first | apply And.intro | intro _)
  any_goals (first | (refine Or.inl (hR4 _ ?_); clear hR4) | (first | omega | (simp only [IntKind.wrap_i64] at *; omega) | (simp_all; done) | (simp_all; omega)))
  refine runs_cut 1 fun R5 hR5 => ?_
  try simp (maxSteps := 1000000) [runs, gd, step1, need, evu, un, opnds, opv, ev, cst, cst1, cstL, getT, getH, putT, onL, nxt, argT, cellsOf, PV.one, thn, inBlk, fldP, ldP, ldC, live, Cells.len, Cells.get, Cells.w, sug, ldv, bin, ops2, sh2, binv, Tk.agg, stC, apC, rdS, apS, mvL, zp, argsP, idx, fillP, toInts, chunks, mkC, ixS, ixA, oidx, slP, sl0, mxF, bltn, frzA, frz, frzL, frz1, pur1, Cells.pur, PV.scal, scal1, runD, rdO, PV.ids, id1, zids, ety, Eff.on, cnd, minb, and1b, ifmax, ifmin, mxv, sugI, w0, w1, w2, wm1, List.take_succ_cons, List.take_zero, List.drop_succ_cons, List.drop_zero]
  refine .inl ⟨_, mid_Split_ok _ _ (by (first | omega | (simp only [IntKind.wrap_i64] at *; omega) | (simp_all; done) | (simp_all; omega))) (by (first | omega | (simp only [IntKind.wrap_i64] at *; omega) | (simp_all; done) | (simp_all; omega))), ?_⟩
  try simp (maxSteps := 1000000) [runs, gd, step1, need, evu, un, opnds, opv, ev, cst, cst1, cstL, getT, getH, putT, onL, nxt, argT, cellsOf, PV.one, thn, inBlk, fldP, ldP, ldC, live, Cells.len, Cells.get, Cells.w, sug, ldv, bin, ops2, sh2, binv, Tk.agg, stC, apC, rdS, apS, mvL, zp, argsP, idx, fillP, toInts, chunks, mkC, ixS, ixA, oidx, slP, sl0, mxF, bltn, frzA, frz, frzL, frz1, pur1, Cells.pur, PV.scal, scal1, runD, rdO, PV.ids, id1, zids, ety, Eff.on, cnd, minb, and1b, ifmax, ifmin, mxv, sugI, w0, w1, w2, wm1]
  repeat' (first | apply And.intro | intro _)
  any_goals (first | (refine hR5 _ ?_; clear hR5) | (first | omega | (simp only [IntKind.wrap_i64] at *; omega) | (simp_all; done) | (simp_all; omega)))
  try simp (maxSteps := 1000000) [runs, gd, step1, need, evu, un, opnds, opv, ev, cst, cst1, cstL, getT, getH, putT, onL, nxt, argT, cellsOf, PV.one, thn, inBlk, fldP, ldP, ldC, live, Cells.len, Cells.get, Cells.w, sug, ldv, bin, ops2, sh2, binv, Tk.agg, stC, apC, rdS, apS, mvL, zp, argsP, idx, fillP, toInts, chunks, mkC, ixS, ixA, oidx, slP, sl0, mxF, bltn, frzA, frz, frzL, frz1, pur1, Cells.pur, PV.scal, scal1, runD, rdO, PV.ids, id1, zids, ety, Eff.on, cnd, minb, and1b, ifmax, ifmin, mxv, sugI, w0, w1, w2, wm1, List.take_succ_cons, List.take_zero, List.drop_succ_cons, List.drop_zero]
  repeat' (first | apply And.intro | intro _)
  any_goals (first | (refine hK2 _ ?_; clear hK2) | (first | omega | (simp only [IntKind.wrap_i64] at *; omega) | (simp_all; done) | (simp_all; omega)))
  refine swp_seq fun K6 hK6 => ?_
  refine swp_region ty_ok ?_
  refine runs_cut 8 fun R7 hR7 => ?_
  try simp (maxSteps := 1000000) [runs, gd, step1, need, evu, un, opnds, opv, ev, cst, cst1, cstL, getT, getH, putT, onL, nxt, argT, cellsOf, PV.one, thn, inBlk, fldP, ldP, ldC, live, Cells.len, Cells.get, Cells.w, sug, ldv, bin, ops2, sh2, binv, Tk.agg, stC, apC, rdS, apS, mvL, zp, argsP, idx, fillP, toInts, chunks, mkC, ixS, ixA, oidx, slP, sl0, mxF, bltn, frzA, frz, frzL, frz1, pur1, Cells.pur, PV.scal, scal1, runD, rdO, PV.ids, id1, zids, ety, Eff.on, cnd, minb, and1b, ifmax, ifmin, mxv, sugI, w0, w1, w2, wm1, List.take_succ_cons, List.take_zero, List.drop_succ_cons, List.drop_zero]
  repeat' (first | apply And.intro | intro _)
  any_goals (first | (refine hR7 _ ?_; clear hR7) | (first | omega | (simp only [IntKind.wrap_i64] at *; omega) | (simp_all; done) | (simp_all; omega)))
  refine runs_cut 8 fun R8 hR8 => ?_
  try simp (maxSteps := 1000000) [runs, gd, step1, need, evu, un, opnds, opv, ev, cst, cst1, cstL, getT, getH, putT, onL, nxt, argT, cellsOf, PV.one, thn, inBlk, fldP, ldP, ldC, live, Cells.len, Cells.get, Cells.w, sug, ldv, bin, ops2, sh2, binv, Tk.agg, stC, apC, rdS, apS, mvL, zp, argsP, idx, fillP, toInts, chunks, mkC, ixS, ixA, oidx, slP, sl0, mxF, bltn, frzA, frz, frzL, frz1, pur1, Cells.pur, PV.scal, scal1, runD, rdO, PV.ids, id1, zids, ety, Eff.on, cnd, minb, and1b, ifmax, ifmin, mxv, sugI, w0, w1, w2, wm1, List.take_succ_cons, List.take_zero, List.drop_succ_cons, List.drop_zero]
  repeat' (first | apply And.intro | intro _)
  any_goals (first | (refine hR8 _ ?_; clear hR8) | (first | omega | (simp only [IntKind.wrap_i64] at *; omega) | (simp_all; done) | (simp_all; omega)))
  try simp (maxSteps := 1000000) [runs, gd, step1, need, evu, un, opnds, opv, ev, cst, cst1, cstL, getT, getH, putT, onL, nxt, argT, cellsOf, PV.one, thn, inBlk, fldP, ldP, ldC, live, Cells.len, Cells.get, Cells.w, sug, ldv, bin, ops2, sh2, binv, Tk.agg, stC, apC, rdS, apS, mvL, zp, argsP, idx, fillP, toInts, chunks, mkC, ixS, ixA, oidx, slP, sl0, mxF, bltn, frzA, frz, frzL, frz1, pur1, Cells.pur, PV.scal, scal1, runD, rdO, PV.ids, id1, zids, ety, Eff.on, cnd, minb, and1b, ifmax, ifmin, mxv, sugI, w0, w1, w2, wm1, List.take_succ_cons, List.take_zero, List.drop_succ_cons, List.drop_zero]
  repeat' (first | apply And.intro | intro _)
  any_goals (first | (refine hK6 _ ?_; clear hK6) | (first | omega | (simp only [IntKind.wrap_i64] at *; omega) | (simp_all; done) | (simp_all; omega)))
  refine swp_ret ?_
  simp [runs, gd, step1, need, evu, un, opnds, opv, ev, cst, cst1, cstL, getT, getH, putT, onL, nxt, argT, cellsOf, PV.one, thn, inBlk, fldP, ldP, ldC, live, Cells.len, Cells.get, Cells.w, sug, ldv, bin, ops2, sh2, binv, Tk.agg, stC, apC, rdS, apS, mvL, zp, argsP, idx, fillP, toInts, chunks, mkC, ixS, ixA, oidx, slP, sl0, mxF, bltn, frzA, frz, frzL, frz1, pur1, Cells.pur, PV.scal, scal1, runD, rdO, PV.ids, id1, zids, ety, Eff.on, cnd, minb, and1b, ifmax, ifmin, mxv, sugI, w0, w1, w2, wm1, fnPost, Try.results18, resP, tupOf]
  decide

theorem reedpipelaw17_MidNames_ok  : PCall Try.prog 5 [] (.bool true) := by
  refine pcall_body ty_ok Try.func5 rfl (by rfl) (by simp) ?_
  rw [Try.ntmps5]
  refine swp_seq fun K1 hK1 => ?_
  refine swp_region ty_ok ?_
  try simp (maxSteps := 1000000) [runs, gd, step1, need, evu, un, opnds, opv, ev, cst, cst1, cstL, getT, getH, putT, onL, nxt, argT, cellsOf, PV.one, thn, inBlk, fldP, ldP, ldC, live, Cells.len, Cells.get, Cells.w, sug, ldv, bin, ops2, sh2, binv, Tk.agg, stC, apC, rdS, apS, mvL, zp, argsP, idx, fillP, toInts, chunks, mkC, ixS, ixA, oidx, slP, sl0, mxF, bltn, frzA, frz, frzL, frz1, pur1, Cells.pur, PV.scal, scal1, runD, rdO, PV.ids, id1, zids, ety, Eff.on, cnd, minb, and1b, ifmax, ifmin, mxv, sugI, w0, w1, w2, wm1]
  repeat' (first | apply And.intro | intro _)
  any_goals (first | (refine hK1 _ ?_; clear hK1) | (first | omega | (simp only [IntKind.wrap_i64] at *; omega) | (simp_all; done) | (simp_all; omega)))
  refine swp_seq fun K2 hK2 => ?_
  refine swp_region ty_ok ?_
  refine runs_cut 1 fun R3 hR3 => ?_
  try simp (maxSteps := 1000000) [runs, gd, step1, need, evu, un, opnds, opv, ev, cst, cst1, cstL, getT, getH, putT, onL, nxt, argT, cellsOf, PV.one, thn, inBlk, fldP, ldP, ldC, live, Cells.len, Cells.get, Cells.w, sug, ldv, bin, ops2, sh2, binv, Tk.agg, stC, apC, rdS, apS, mvL, zp, argsP, idx, fillP, toInts, chunks, mkC, ixS, ixA, oidx, slP, sl0, mxF, bltn, frzA, frz, frzL, frz1, pur1, Cells.pur, PV.scal, scal1, runD, rdO, PV.ids, id1, zids, ety, Eff.on, cnd, minb, and1b, ifmax, ifmin, mxv, sugI, w0, w1, w2, wm1, List.take_succ_cons, List.take_zero, List.drop_succ_cons, List.drop_zero]
  repeat' (first | apply And.intro | intro _)
  any_goals (first | (refine Or.inl (hR3 _ ?_); clear hR3) | (first | omega | (simp only [IntKind.wrap_i64] at *; omega) | (simp_all; done) | (simp_all; omega)))
  refine runs_cut 1 fun R4 hR4 => ?_
  try simp (maxSteps := 1000000) [runs, gd, step1, need, evu, un, opnds, opv, ev, cst, cst1, cstL, getT, getH, putT, onL, nxt, argT, cellsOf, PV.one, thn, inBlk, fldP, ldP, ldC, live, Cells.len, Cells.get, Cells.w, sug, ldv, bin, ops2, sh2, binv, Tk.agg, stC, apC, rdS, apS, mvL, zp, argsP, idx, fillP, toInts, chunks, mkC, ixS, ixA, oidx, slP, sl0, mxF, bltn, frzA, frz, frzL, frz1, pur1, Cells.pur, PV.scal, scal1, runD, rdO, PV.ids, id1, zids, ety, Eff.on, cnd, minb, and1b, ifmax, ifmin, mxv, sugI, w0, w1, w2, wm1, List.take_succ_cons, List.take_zero, List.drop_succ_cons, List.drop_zero]
  repeat' (first | apply And.intro | intro _)
  any_goals (first | (refine Or.inl (hR4 _ ?_); clear hR4) | (first | omega | (simp only [IntKind.wrap_i64] at *; omega) | (simp_all; done) | (simp_all; omega)))
  refine runs_cut 1 fun R5 hR5 => ?_
  try simp (maxSteps := 1000000) [runs, gd, step1, need, evu, un, opnds, opv, ev, cst, cst1, cstL, getT, getH, putT, onL, nxt, argT, cellsOf, PV.one, thn, inBlk, fldP, ldP, ldC, live, Cells.len, Cells.get, Cells.w, sug, ldv, bin, ops2, sh2, binv, Tk.agg, stC, apC, rdS, apS, mvL, zp, argsP, idx, fillP, toInts, chunks, mkC, ixS, ixA, oidx, slP, sl0, mxF, bltn, frzA, frz, frzL, frz1, pur1, Cells.pur, PV.scal, scal1, runD, rdO, PV.ids, id1, zids, ety, Eff.on, cnd, minb, and1b, ifmax, ifmin, mxv, sugI, w0, w1, w2, wm1, List.take_succ_cons, List.take_zero, List.drop_succ_cons, List.drop_zero]
  refine .inl ⟨_, mid_Join_ok _ _ (by (first | omega | (simp only [IntKind.wrap_i64] at *; omega) | (simp_all; done) | (simp_all; omega))) (by (first | omega | (simp only [IntKind.wrap_i64] at *; omega) | (simp_all; done) | (simp_all; omega))), ?_⟩
  try simp (maxSteps := 1000000) [runs, gd, step1, need, evu, un, opnds, opv, ev, cst, cst1, cstL, getT, getH, putT, onL, nxt, argT, cellsOf, PV.one, thn, inBlk, fldP, ldP, ldC, live, Cells.len, Cells.get, Cells.w, sug, ldv, bin, ops2, sh2, binv, Tk.agg, stC, apC, rdS, apS, mvL, zp, argsP, idx, fillP, toInts, chunks, mkC, ixS, ixA, oidx, slP, sl0, mxF, bltn, frzA, frz, frzL, frz1, pur1, Cells.pur, PV.scal, scal1, runD, rdO, PV.ids, id1, zids, ety, Eff.on, cnd, minb, and1b, ifmax, ifmin, mxv, sugI, w0, w1, w2, wm1]
  repeat' (first | apply And.intro | intro _)
  any_goals (first | (refine hR5 _ ?_; clear hR5) | (first | omega | (simp only [IntKind.wrap_i64] at *; omega) | (simp_all; done) | (simp_all; omega)))
  try simp (maxSteps := 1000000) [runs, gd, step1, need, evu, un, opnds, opv, ev, cst, cst1, cstL, getT, getH, putT, onL, nxt, argT, cellsOf, PV.one, thn, inBlk, fldP, ldP, ldC, live, Cells.len, Cells.get, Cells.w, sug, ldv, bin, ops2, sh2, binv, Tk.agg, stC, apC, rdS, apS, mvL, zp, argsP, idx, fillP, toInts, chunks, mkC, ixS, ixA, oidx, slP, sl0, mxF, bltn, frzA, frz, frzL, frz1, pur1, Cells.pur, PV.scal, scal1, runD, rdO, PV.ids, id1, zids, ety, Eff.on, cnd, minb, and1b, ifmax, ifmin, mxv, sugI, w0, w1, w2, wm1, List.take_succ_cons, List.take_zero, List.drop_succ_cons, List.drop_zero]
  repeat' (first | apply And.intro | intro _)
  any_goals (first | (refine hK2 _ ?_; clear hK2) | (first | omega | (simp only [IntKind.wrap_i64] at *; omega) | (simp_all; done) | (simp_all; omega)))
  refine swp_seq fun K6 hK6 => ?_
  refine swp_region ty_ok ?_
  refine runs_cut 1 fun R7 hR7 => ?_
  try simp (maxSteps := 1000000) [runs, gd, step1, need, evu, un, opnds, opv, ev, cst, cst1, cstL, getT, getH, putT, onL, nxt, argT, cellsOf, PV.one, thn, inBlk, fldP, ldP, ldC, live, Cells.len, Cells.get, Cells.w, sug, ldv, bin, ops2, sh2, binv, Tk.agg, stC, apC, rdS, apS, mvL, zp, argsP, idx, fillP, toInts, chunks, mkC, ixS, ixA, oidx, slP, sl0, mxF, bltn, frzA, frz, frzL, frz1, pur1, Cells.pur, PV.scal, scal1, runD, rdO, PV.ids, id1, zids, ety, Eff.on, cnd, minb, and1b, ifmax, ifmin, mxv, sugI, w0, w1, w2, wm1, List.take_succ_cons, List.take_zero, List.drop_succ_cons, List.drop_zero]
  repeat' (first | apply And.intro | intro _)
  any_goals (first | (refine Or.inl (hR7 _ ?_); clear hR7) | (first | omega | (simp only [IntKind.wrap_i64] at *; omega) | (simp_all; done) | (simp_all; omega)))
  refine runs_cut 1 fun R8 hR8 => ?_
  try simp (maxSteps := 1000000) [runs, gd, step1, need, evu, un, opnds, opv, ev, cst, cst1, cstL, getT, getH, putT, onL, nxt, argT, cellsOf, PV.one, thn, inBlk, fldP, ldP, ldC, live, Cells.len, Cells.get, Cells.w, sug, ldv, bin, ops2, sh2, binv, Tk.agg, stC, apC, rdS, apS, mvL, zp, argsP, idx, fillP, toInts, chunks, mkC, ixS, ixA, oidx, slP, sl0, mxF, bltn, frzA, frz, frzL, frz1, pur1, Cells.pur, PV.scal, scal1, runD, rdO, PV.ids, id1, zids, ety, Eff.on, cnd, minb, and1b, ifmax, ifmin, mxv, sugI, w0, w1, w2, wm1, List.take_succ_cons, List.take_zero, List.drop_succ_cons, List.drop_zero]
  refine .inl ⟨_, mid_Split_ok _ _ (by (first | omega | (simp only [IntKind.wrap_i64] at *; omega) | (simp_all; done) | (simp_all; omega))) (by (first | omega | (simp only [IntKind.wrap_i64] at *; omega) | (simp_all; done) | (simp_all; omega))), ?_⟩
  try simp (maxSteps := 1000000) [runs, gd, step1, need, evu, un, opnds, opv, ev, cst, cst1, cstL, getT, getH, putT, onL, nxt, argT, cellsOf, PV.one, thn, inBlk, fldP, ldP, ldC, live, Cells.len, Cells.get, Cells.w, sug, ldv, bin, ops2, sh2, binv, Tk.agg, stC, apC, rdS, apS, mvL, zp, argsP, idx, fillP, toInts, chunks, mkC, ixS, ixA, oidx, slP, sl0, mxF, bltn, frzA, frz, frzL, frz1, pur1, Cells.pur, PV.scal, scal1, runD, rdO, PV.ids, id1, zids, ety, Eff.on, cnd, minb, and1b, ifmax, ifmin, mxv, sugI, w0, w1, w2, wm1]
  repeat' (first | apply And.intro | intro _)
  any_goals (first | (refine hR8 _ ?_; clear hR8) | (first | omega | (simp only [IntKind.wrap_i64] at *; omega) | (simp_all; done) | (simp_all; omega)))
  try simp (maxSteps := 1000000) [runs, gd, step1, need, evu, un, opnds, opv, ev, cst, cst1, cstL, getT, getH, putT, onL, nxt, argT, cellsOf, PV.one, thn, inBlk, fldP, ldP, ldC, live, Cells.len, Cells.get, Cells.w, sug, ldv, bin, ops2, sh2, binv, Tk.agg, stC, apC, rdS, apS, mvL, zp, argsP, idx, fillP, toInts, chunks, mkC, ixS, ixA, oidx, slP, sl0, mxF, bltn, frzA, frz, frzL, frz1, pur1, Cells.pur, PV.scal, scal1, runD, rdO, PV.ids, id1, zids, ety, Eff.on, cnd, minb, and1b, ifmax, ifmin, mxv, sugI, w0, w1, w2, wm1, List.take_succ_cons, List.take_zero, List.drop_succ_cons, List.drop_zero]
  repeat' (first | apply And.intro | intro _)
  any_goals (first | (refine hK6 _ ?_; clear hK6) | (first | omega | (simp only [IntKind.wrap_i64] at *; omega) | (simp_all; done) | (simp_all; omega)))
  refine swp_seq fun K9 hK9 => ?_
  refine swp_region ty_ok ?_
  refine runs_cut 1 fun R10 hR10 => ?_
  try simp (maxSteps := 1000000) [runs, gd, step1, need, evu, un, opnds, opv, ev, cst, cst1, cstL, getT, getH, putT, onL, nxt, argT, cellsOf, PV.one, thn, inBlk, fldP, ldP, ldC, live, Cells.len, Cells.get, Cells.w, sug, ldv, bin, ops2, sh2, binv, Tk.agg, stC, apC, rdS, apS, mvL, zp, argsP, idx, fillP, toInts, chunks, mkC, ixS, ixA, oidx, slP, sl0, mxF, bltn, frzA, frz, frzL, frz1, pur1, Cells.pur, PV.scal, scal1, runD, rdO, PV.ids, id1, zids, ety, Eff.on, cnd, minb, and1b, ifmax, ifmin, mxv, sugI, w0, w1, w2, wm1, List.take_succ_cons, List.take_zero, List.drop_succ_cons, List.drop_zero]
  repeat' (first | apply And.intro | intro _)
  any_goals (first | (refine Or.inl (hR10 _ ?_); clear hR10) | (first | omega | (simp only [IntKind.wrap_i64] at *; omega) | (simp_all; done) | (simp_all; omega)))
  refine runs_cut 1 fun R11 hR11 => ?_
  try simp (maxSteps := 1000000) [runs, gd, step1, need, evu, un, opnds, opv, ev, cst, cst1, cstL, getT, getH, putT, onL, nxt, argT, cellsOf, PV.one, thn, inBlk, fldP, ldP, ldC, live, Cells.len, Cells.get, Cells.w, sug, ldv, bin, ops2, sh2, binv, Tk.agg, stC, apC, rdS, apS, mvL, zp, argsP, idx, fillP, toInts, chunks, mkC, ixS, ixA, oidx, slP, sl0, mxF, bltn, frzA, frz, frzL, frz1, pur1, Cells.pur, PV.scal, scal1, runD, rdO, PV.ids, id1, zids, ety, Eff.on, cnd, minb, and1b, ifmax, ifmin, mxv, sugI, w0, w1, w2, wm1, List.take_succ_cons, List.take_zero, List.drop_succ_cons, List.drop_zero]
  repeat' (first | apply And.intro | intro _)
  any_goals (first | (refine Or.inl (hR11 _ ?_); clear hR11) | (first | omega | (simp only [IntKind.wrap_i64] at *; omega) | (simp_all; done) | (simp_all; omega)))
  refine runs_cut 1 fun R12 hR12 => ?_
  try simp (maxSteps := 1000000) [runs, gd, step1, need, evu, un, opnds, opv, ev, cst, cst1, cstL, getT, getH, putT, onL, nxt, argT, cellsOf, PV.one, thn, inBlk, fldP, ldP, ldC, live, Cells.len, Cells.get, Cells.w, sug, ldv, bin, ops2, sh2, binv, Tk.agg, stC, apC, rdS, apS, mvL, zp, argsP, idx, fillP, toInts, chunks, mkC, ixS, ixA, oidx, slP, sl0, mxF, bltn, frzA, frz, frzL, frz1, pur1, Cells.pur, PV.scal, scal1, runD, rdO, PV.ids, id1, zids, ety, Eff.on, cnd, minb, and1b, ifmax, ifmin, mxv, sugI, w0, w1, w2, wm1, List.take_succ_cons, List.take_zero, List.drop_succ_cons, List.drop_zero]
  refine .inl ⟨_, mid_Join_ok _ _ (by (first | omega | (simp only [IntKind.wrap_i64] at *; omega) | (simp_all; done) | (simp_all; omega))) (by (first | omega | (simp only [IntKind.wrap_i64] at *; omega) | (simp_all; done) | (simp_all; omega))), ?_⟩
  try simp (maxSteps := 1000000) [runs, gd, step1, need, evu, un, opnds, opv, ev, cst, cst1, cstL, getT, getH, putT, onL, nxt, argT, cellsOf, PV.one, thn, inBlk, fldP, ldP, ldC, live, Cells.len, Cells.get, Cells.w, sug, ldv, bin, ops2, sh2, binv, Tk.agg, stC, apC, rdS, apS, mvL, zp, argsP, idx, fillP, toInts, chunks, mkC, ixS, ixA, oidx, slP, sl0, mxF, bltn, frzA, frz, frzL, frz1, pur1, Cells.pur, PV.scal, scal1, runD, rdO, PV.ids, id1, zids, ety, Eff.on, cnd, minb, and1b, ifmax, ifmin, mxv, sugI, w0, w1, w2, wm1]
  repeat' (first | apply And.intro | intro _)
  any_goals (first | (refine hR12 _ ?_; clear hR12) | (first | omega | (simp only [IntKind.wrap_i64] at *; omega) | (simp_all; done) | (simp_all; omega)))
  try simp (maxSteps := 1000000) [runs, gd, step1, need, evu, un, opnds, opv, ev, cst, cst1, cstL, getT, getH, putT, onL, nxt, argT, cellsOf, PV.one, thn, inBlk, fldP, ldP, ldC, live, Cells.len, Cells.get, Cells.w, sug, ldv, bin, ops2, sh2, binv, Tk.agg, stC, apC, rdS, apS, mvL, zp, argsP, idx, fillP, toInts, chunks, mkC, ixS, ixA, oidx, slP, sl0, mxF, bltn, frzA, frz, frzL, frz1, pur1, Cells.pur, PV.scal, scal1, runD, rdO, PV.ids, id1, zids, ety, Eff.on, cnd, minb, and1b, ifmax, ifmin, mxv, sugI, w0, w1, w2, wm1, List.take_succ_cons, List.take_zero, List.drop_succ_cons, List.drop_zero]
  repeat' (first | apply And.intro | intro _)
  any_goals (first | (refine hK9 _ ?_; clear hK9) | (first | omega | (simp only [IntKind.wrap_i64] at *; omega) | (simp_all; done) | (simp_all; omega)))
  refine swp_seq fun K13 hK13 => ?_
  refine swp_region ty_ok ?_
  refine runs_cut 1 fun R14 hR14 => ?_
  try simp (maxSteps := 1000000) [runs, gd, step1, need, evu, un, opnds, opv, ev, cst, cst1, cstL, getT, getH, putT, onL, nxt, argT, cellsOf, PV.one, thn, inBlk, fldP, ldP, ldC, live, Cells.len, Cells.get, Cells.w, sug, ldv, bin, ops2, sh2, binv, Tk.agg, stC, apC, rdS, apS, mvL, zp, argsP, idx, fillP, toInts, chunks, mkC, ixS, ixA, oidx, slP, sl0, mxF, bltn, frzA, frz, frzL, frz1, pur1, Cells.pur, PV.scal, scal1, runD, rdO, PV.ids, id1, zids, ety, Eff.on, cnd, minb, and1b, ifmax, ifmin, mxv, sugI, w0, w1, w2, wm1, List.take_succ_cons, List.take_zero, List.drop_succ_cons, List.drop_zero]
  repeat' (first | apply And.intro | intro _)
  any_goals (first | (refine hR14 _ ?_; clear hR14) | (first | omega | (simp only [IntKind.wrap_i64] at *; omega) | (simp_all; done) | (simp_all; omega)))
  refine runs_cut 1 fun R15 hR15 => ?_
  try simp (maxSteps := 1000000) [runs, gd, step1, need, evu, un, opnds, opv, ev, cst, cst1, cstL, getT, getH, putT, onL, nxt, argT, cellsOf, PV.one, thn, inBlk, fldP, ldP, ldC, live, Cells.len, Cells.get, Cells.w, sug, ldv, bin, ops2, sh2, binv, Tk.agg, stC, apC, rdS, apS, mvL, zp, argsP, idx, fillP, toInts, chunks, mkC, ixS, ixA, oidx, slP, sl0, mxF, bltn, frzA, frz, frzL, frz1, pur1, Cells.pur, PV.scal, scal1, runD, rdO, PV.ids, id1, zids, ety, Eff.on, cnd, minb, and1b, ifmax, ifmin, mxv, sugI, w0, w1, w2, wm1, List.take_succ_cons, List.take_zero, List.drop_succ_cons, List.drop_zero]
  first | refine ⟨_, fun hb => .inl (reedpipelaw17_alive_ok), ?_⟩ | refine ⟨_, .inl (reedpipelaw17_alive_ok), ?_⟩ | refine ⟨_, fun hb => .inl ⟨_, reedpipelaw17_alive_ok, by (try simp [runs, gd, step1, need, evu, un, opnds, opv, ev, cst, cst1, cstL, getT, getH, putT, onL, nxt, argT, cellsOf, PV.one, thn, inBlk, fldP, ldP, ldC, live, Cells.len, Cells.get, Cells.w, sug, ldv, bin, ops2, sh2, binv, Tk.agg, stC, apC, rdS, apS, mvL, zp, argsP, idx, fillP, toInts, chunks, mkC, ixS, ixA, oidx, slP, sl0, mxF, bltn, frzA, frz, frzL, frz1, pur1, Cells.pur, PV.scal, scal1, runD, rdO, PV.ids, id1, zids, ety, Eff.on, cnd, minb, and1b, ifmax, ifmin, mxv, sugI, w0, w1, w2, wm1]); exact ⟨rfl, rfl⟩⟩, ?_⟩
  repeat' (first | apply And.intro | intro _)
  any_goals (first | (refine hR15 _ ?_; clear hR15) | (first | omega | (simp only [IntKind.wrap_i64] at *; omega) | (simp_all; done) | (simp_all; omega)))
  refine runs_cut 12 fun R16 hR16 => ?_
  try simp (maxSteps := 1000000) [runs, gd, step1, need, evu, un, opnds, opv, ev, cst, cst1, cstL, getT, getH, putT, onL, nxt, argT, cellsOf, PV.one, thn, inBlk, fldP, ldP, ldC, live, Cells.len, Cells.get, Cells.w, sug, ldv, bin, ops2, sh2, binv, Tk.agg, stC, apC, rdS, apS, mvL, zp, argsP, idx, fillP, toInts, chunks, mkC, ixS, ixA, oidx, slP, sl0, mxF, bltn, frzA, frz, frzL, frz1, pur1, Cells.pur, PV.scal, scal1, runD, rdO, PV.ids, id1, zids, ety, Eff.on, cnd, minb, and1b, ifmax, ifmin, mxv, sugI, w0, w1, w2, wm1, List.take_succ_cons, List.take_zero, List.drop_succ_cons, List.drop_zero]
  repeat' (first | apply And.intro | intro _)
  any_goals (first | (refine hR16 _ ?_; clear hR16) | (first | omega | (simp only [IntKind.wrap_i64] at *; omega) | (simp_all; done) | (simp_all; omega)))
  refine runs_cut 12 fun R17 hR17 => ?_
  try simp (maxSteps := 1000000) [runs, gd, step1, need, evu, un, opnds, opv, ev, cst, cst1, cstL, getT, getH, putT, onL, nxt, argT, cellsOf, PV.one, thn, inBlk, fldP, ldP, ldC, live, Cells.len, Cells.get, Cells.w, sug, ldv, bin, ops2, sh2, binv, Tk.agg, stC, apC, rdS, apS, mvL, zp, argsP, idx, fillP, toInts, chunks, mkC, ixS, ixA, oidx, slP, sl0, mxF, bltn, frzA, frz, frzL, frz1, pur1, Cells.pur, PV.scal, scal1, runD, rdO, PV.ids, id1, zids, ety, Eff.on, cnd, minb, and1b, ifmax, ifmin, mxv, sugI, w0, w1, w2, wm1, List.take_succ_cons, List.take_zero, List.drop_succ_cons, List.drop_zero]
  repeat' (first | apply And.intro | intro _)
  any_goals (first | (refine hR17 _ ?_; clear hR17) | (first | omega | (simp only [IntKind.wrap_i64] at *; omega) | (simp_all; done) | (simp_all; omega)))
  try simp (maxSteps := 1000000) [runs, gd, step1, need, evu, un, opnds, opv, ev, cst, cst1, cstL, getT, getH, putT, onL, nxt, argT, cellsOf, PV.one, thn, inBlk, fldP, ldP, ldC, live, Cells.len, Cells.get, Cells.w, sug, ldv, bin, ops2, sh2, binv, Tk.agg, stC, apC, rdS, apS, mvL, zp, argsP, idx, fillP, toInts, chunks, mkC, ixS, ixA, oidx, slP, sl0, mxF, bltn, frzA, frz, frzL, frz1, pur1, Cells.pur, PV.scal, scal1, runD, rdO, PV.ids, id1, zids, ety, Eff.on, cnd, minb, and1b, ifmax, ifmin, mxv, sugI, w0, w1, w2, wm1, List.take_succ_cons, List.take_zero, List.drop_succ_cons, List.drop_zero]
  repeat' (first | apply And.intro | intro _)
  any_goals (first | (refine hK13 _ ?_; clear hK13) | (first | omega | (simp only [IntKind.wrap_i64] at *; omega) | (simp_all; done) | (simp_all; omega)))
  refine swp_ret ?_
  simp [runs, gd, step1, need, evu, un, opnds, opv, ev, cst, cst1, cstL, getT, getH, putT, onL, nxt, argT, cellsOf, PV.one, thn, inBlk, fldP, ldP, ldC, live, Cells.len, Cells.get, Cells.w, sug, ldv, bin, ops2, sh2, binv, Tk.agg, stC, apC, rdS, apS, mvL, zp, argsP, idx, fillP, toInts, chunks, mkC, ixS, ixA, oidx, slP, sl0, mxF, bltn, frzA, frz, frzL, frz1, pur1, Cells.pur, PV.scal, scal1, runD, rdO, PV.ids, id1, zids, ety, Eff.on, cnd, minb, and1b, ifmax, ifmin, mxv, sugI, w0, w1, w2, wm1, fnPost, Try.results5, resP, tupOf]
  decide

theorem mEach_facts (F G : Int → Int → Int) (xs ys : List Int) : (mEach F G xs ys).2.2 = asked xs ys ∧ ((mEach F G xs ys).2.2 ≠ 0 → (mEach F G xs ys).1 = [] ∧ (mEach F G xs ys).2.1 = []) ∧ ((mEach F G xs ys).2.2 = 0 → (mEach F G xs ys).1.length = xs.length ∧ (mEach F G xs ys).2.1.length = xs.length ∧
    ∀ i < xs.length, (mEach F G xs ys).1[i]?.getD 0 = lim (F (xs[i]?.getD 0) (ys[i]?.getD 0)) ∧ (mEach F G xs ys).2.1[i]?.getD 0 = lim (G (xs[i]?.getD 0) (ys[i]?.getD 0))) := by
  unfold mEach
  by_cases h : asked xs ys = 0
  · rw [if_pos h]
    exact ⟨h.symm, fun h => absurd rfl h, fun _ => ⟨row_len .., row_len .., fun i hi => ⟨row_at _ _ _ hi, row_at _ _ _ hi⟩⟩⟩
  · rw [if_neg h]
    exact ⟨rfl, fun _ => ⟨rfl, rfl⟩, fun h' => absurd h' h⟩
theorem split_ex (xs ys : List Int) (hx : xs.length ≤ 140737488355328) (hy : ys.length ≤ 140737488355328) : ∃ m s e, PCall Try.prog 17 [.ro (.ints .i64 xs), .ro (.ints .i64 ys)] (.tup [.ro (.ints .i64 m), .ro (.ints .i64 s), .int .i64 e]) ∧ e = asked xs ys ∧ (e ≠ 0 → m = [] ∧ s = []) ∧ (e = 0 → m.length = xs.length ∧ s.length = xs.length ∧
    ∀ i < xs.length, m[i]?.getD 0 = lim ((xs[i]?.getD 0 + ys[i]?.getD 0 + 1) / 2) ∧ s[i]?.getD 0 = lim ((xs[i]?.getD 0 - ys[i]?.getD 0 + 1) / 2)) := by
  obtain ⟨h1, h2, h3⟩ := mEach_facts (mHalf mAdd) (mHalf mSub) xs ys
  refine ⟨_, _, _, mid_Split_ok xs ys hx hy, h1, h2, fun h => ?_⟩
  obtain ⟨a1, a2, a3⟩ := h3 h
  refine ⟨a1, a2, fun i hi => ?_⟩
  obtain ⟨b1, b2⟩ := a3 i hi
  obtain ⟨c1, c2⟩ := (asked_yes (h1.symm.trans h)).2.2 i hi
  rw [b1, b2]
  unfold mHalf mAdd mSub
  rw [w64 (by omega), w64 (by omega), halfE (by omega), halfE (by omega)]
  exact ⟨rfl, rfl⟩
theorem join_ex (xs ys : List Int) (hx : xs.length ≤ 140737488355328) (hy : ys.length ≤ 140737488355328) : ∃ m s e, PCall Try.prog 16 [.ro (.ints .i64 xs), .ro (.ints .i64 ys)] (.tup [.ro (.ints .i64 m), .ro (.ints .i64 s), .int .i64 e]) ∧ e = asked xs ys ∧ (e ≠ 0 → m = [] ∧ s = []) ∧ (e = 0 → m.length = xs.length ∧ s.length = xs.length ∧
    ∀ i < xs.length, m[i]?.getD 0 = lim (xs[i]?.getD 0 + ys[i]?.getD 0) ∧ s[i]?.getD 0 = lim (xs[i]?.getD 0 - ys[i]?.getD 0)) := by
  obtain ⟨h1, h2, h3⟩ := mEach_facts mAdd mSub xs ys
  refine ⟨_, _, _, mid_Join_ok xs ys hx hy, h1, h2, fun h => ?_⟩
  obtain ⟨a1, a2, a3⟩ := h3 h
  refine ⟨a1, a2, fun i hi => ?_⟩
  obtain ⟨b1, b2⟩ := a3 i hi
  obtain ⟨c1, c2⟩ := (asked_yes (h1.symm.trans h)).2.2 i hi
  rw [b1, b2]
  unfold mAdd mSub
  rw [w64 (by omega), w64 (by omega)]
  exact ⟨rfl, rfl⟩

end Go.Proofs.Ytdcidpgabhbhbaa
