import Derived.Test.YtkhjiabenifplaaWb
import Derived.Test.YtkhjiabenifplaaTyi
import Derived.Test.YtkhjiabenifplaaWband
import Derived.Test.YtkhjiabenifplaaWinfo
import Derived.Test.YtkhjiabenifplaaWinfo2
import Derived.Test.YtkhjiabenifplaaWbits
import Derived.Test.YtkhjiabenifplaaWinfp
import Derived.Test.YtkhjiabenifplaaWinfl
namespace Go.Proofs.Ytkhjiabenifplaa
set_option linter.unusedVariables false
set_option linter.unusedSimpArgs false
set_option maxRecDepth 10000
open Go Go.Pv


open Go.RowKit
def cntG (g : List Int) (w k : Nat) : Nat := ((List.range w).filter fun v => decide (grp g (v : Nat) = k)).length
def manyL (g : List Int) (w : Nat) : List Int := (List.range g.length).map fun k => (cntG g w k : Int)
def lastG (g : List Int) : Nat → Nat
  | 0 => 0
  | v + 1 => grp g (v : Nat)
theorem cntG_succ (g : List Int) (w k : Nat) : cntG g (w + 1) k = cntG g w k + (if grp g (w : Nat) = k then 1 else 0) := by
  unfold cntG
  rw [List.range_succ, List.filter_append, List.length_append]
  by_cases h : grp g (w : Nat) = k <;> simp [h]
theorem cntG_le (g : List Int) (w k : Nat) : cntG g w k ≤ w := by
  unfold cntG
  have := List.length_filter_le (fun v => decide (grp g ((v : Nat) : Int) = k)) (List.range w)
  simpa using this
theorem manyL_len (g : List Int) (w : Nat) : (manyL g w).length = g.length := by simp [manyL]
theorem manyL_get (g : List Int) (w k : Nat) (h : k < g.length) : (manyL g w)[k]?.getD 0 = (cntG g w k : Int) := by simp [manyL, h]
theorem manyL_zero (g : List Int) : manyL g 0 = List.replicate g.length 0 := by
  refine List.ext_getElem (by simp [manyL]) fun i h1 h2 => ?_
  simp [manyL, cntG]
theorem manyL_succ (g : List Int) (w : Nat) (h : grp g (w : Nat) < g.length) : manyL g (w + 1) = (manyL g w).set (grp g (w : Nat)) ((manyL g w)[grp g (w : Nat)]?.getD 0 + 1) := by
  rw [manyL_get g w _ h]
  refine List.ext_getElem (by simp [manyL]) fun i h1 h2 => ?_
  rw [List.getElem_set]
  simp only [manyL, List.getElem_map, List.getElem_range, cntG_succ]
  by_cases hi : grp g (w : Nat) = i
  · rw [if_pos hi, if_pos hi, hi]; push_cast; rfl
  · rw [if_neg hi, if_neg hi]; rfl
theorem grp_lt : ∀ (g : List Int) (w : Int), (∀ x ∈ g, 1 ≤ x) → 0 ≤ w → w < g.sum → grp g w < g.length
  | [], w, _, h0, h1 => by simp at h1; omega
  | x :: g, w, h, h0, h1 => by
    rw [List.sum_cons] at h1
    simp only [grp]
    by_cases hw : x ≤ w
    · rw [if_pos hw]
      have := grp_lt g (w - x) (fun y hy => h y (by simp [hy])) (by omega) (by omega)
      simp only [List.length_cons]
      omega
    · rw [if_neg hw]; simp
theorem grp_zero : ∀ (g : List Int), (∀ x ∈ g, 1 ≤ x) → grp g 0 = 0
  | [], _ => rfl
  | x :: g, h => by
    have := h x (by simp)
    simp only [grp]
    rw [if_neg (by omega)]
theorem grp_next : ∀ (g : List Int) (w : Int), (∀ x ∈ g, 1 ≤ x) → 0 ≤ w → grp g (w + 1) = grp g w ∨ grp g (w + 1) = grp g w + 1
  | [], w, _, _ => .inl rfl
  | x :: g, w, h, h0 => by
    simp only [grp]
    by_cases hw : x ≤ w
    · rw [if_pos hw, if_pos (by omega : x ≤ w + 1), show w + 1 - x = w - x + 1 by omega]
      have := grp_next g (w - x) (fun y hy => h y (by simp [hy])) (by omega)
      omega
    · rw [if_neg hw]
      by_cases h2 : x ≤ w + 1
      · rw [if_pos h2, show w + 1 - x = 0 by omega, grp_zero g fun y hy => h y (by simp [hy])]
        exact .inr rfl
      · rw [if_neg h2]; exact .inl rfl
theorem last_ok (g : List Int) (w : Nat) (h : ∀ x ∈ g, 1 ≤ x) : lastG g w ≤ grp g (w : Nat) ∧ grp g (w : Nat) ≤ lastG g w + 1 ∧ (w = 0 → grp g (w : Nat) = 0) := by
  cases w with
  | zero => have := grp_zero g h; simp [lastG, this]
  | succ v =>
    have := grp_next g (v : Nat) h (by omega)
    have e : ((v + 1 : Nat) : Int) = (v : Int) + 1 := by push_cast; rfl
    rw [lastG, e]
    exact ⟨by omega, by omega, fun h => by omega⟩
theorem inL_count : ∀ (g : List Int) (k j : Nat), (∀ x ∈ g, 1 ≤ x) → ((inL k g).filter fun v => decide (v = ((k + j : Nat) : Int))).length = (g[j]?.getD 0).toNat
  | [], k, j, _ => by simp [inL]
  | x :: g, k, j, h => by
    simp only [inL, List.filter_append, List.length_append]
    have hge : ∀ (g : List Int) (k : Nat), ∀ v ∈ inL k g, (k : Int) ≤ v := by
      intro g
      induction g with
      | nil => intro k v hv; simp [inL] at hv
      | cons y g ih =>
        intro k v hv
        simp only [inL, List.mem_append, List.mem_replicate] at hv
        rcases hv with ⟨_, rfl⟩ | hv
        · omega
        · have := ih (k + 1) v hv; omega
    cases j with
    | zero =>
      have h2 : (inL (k + 1) g).filter (fun v => decide (v = ((k + 0 : Nat) : Int))) = [] := by
        rw [List.filter_eq_nil_iff]
        intro v hv
        have := hge g (k + 1) v hv
        simp
        omega
      rw [h2, List.filter_eq_self.2 (fun v hv => by rw [List.mem_replicate] at hv; simp [hv.2])]
      simp
    | succ j =>
      have h2 : (List.replicate x.toNat (k : Int)).filter (fun v => decide (v = ((k + (j + 1) : Nat) : Int))) = [] := by
        rw [List.filter_eq_nil_iff]
        intro v hv
        rw [List.mem_replicate] at hv
        simp [hv.2]
        omega
      have := inL_count g (k + 1) j fun y hy => h y (by simp [hy])
      rw [h2, show k + (j + 1) = k + 1 + j by omega, this]
      simp
theorem cntG_all (g : List Int) (k : Nat) (h : ∀ x ∈ g, 1 ≤ x) (hk : k < g.length) : (cntG g g.sum.toNat k : Int) = g[k]?.getD 0 := by
  have h1 := inL_count g 0 k h
  have h2 := inL_len g 0 h
  have h3 : inL 0 g = (List.range g.sum.toNat).map fun v => ((grp g (v : Nat) : Nat) : Int) := by
    refine List.ext_getElem (by simp; omega) fun i a b => ?_
    have := inL_get g 0 (i : Nat) h (by omega) (by omega)
    rw [Int.toNat_natCast, List.getElem?_eq_getElem a] at this
    simp only [Option.getD_some, Nat.zero_add] at this
    rw [this]
    simp
  rw [h3, List.filter_map, List.length_map] at h1
  have h4 := of_all h hk
  have : ((List.range g.sum.toNat).filter ((fun v => decide (v = ((0 + k : Nat) : Int))) ∘ fun v => ((grp g ((v : Nat) : Int) : Nat) : Int))).length = cntG g g.sum.toNat k := by
    unfold cntG
    congr 1
    refine List.filter_congr fun v _ => ?_
    simp
    omega
  omega

theorem reedpipelaw10_InfoGroups_ok (s sh m : Int) (g : List Int) : PCall Try.prog 4 [.agg [.int .u8 s, .int .u8 sh, .int .i64 m, .ro (.ints .i64 g)]] (.bool true) := by
  refine pcall_body ty_ok Try.func4 rfl (by rfl) (by simp) ?_
  rw [Try.ntmps4]
  refine swp_seq fun K1 hK1 => ?_
  refine swp_region ty_ok ?_
  try simp (maxSteps := 1000000) [runs, gd, step1, need, evu, un, opnds, opv, ev, cst, cst1, cstL, getT, getH, putT, onL, nxt, argT, cellsOf, PV.one, thn, inBlk, jmp, fldP, ldP, ldC, live, Cells.len, Cells.get, Cells.w, sug, ldv, bin, ops2, sh2, binv, Tk.agg, stC, apC, rdS, apS, mvL, zp, argsP, idx, fillP, toInts, chunks, mkC, ixS, ixA, oidx, slP, sl0, mxF, bltn, frzA, frz, frzL, frz1, pur1, Cells.pur, PV.scal, scal1, runD, rdO, PV.ids, id1, zids, ety, Eff.on, cnd, minb, and1b, ifmax, ifmin, mxv, sugI, strv, w0, w1, w2, wm1, manyL_len]
  repeat' (first | apply And.intro | intro _)
  any_goals (first | (refine hK1 _ ?_; clear hK1) | (first | omega | (simp only [IntKind.wrap_i64] at *; omega) | (simp_all; done) | (simp_all; omega)))
  refine swp_seq fun K2 hK2 => ?_
  refine swp_region ty_ok ?_
  refine runs_cut 1 fun R3 hR3 => ?_
  try simp (maxSteps := 1000000) [runs, gd, step1, need, evu, un, opnds, opv, ev, cst, cst1, cstL, getT, getH, putT, onL, nxt, argT, cellsOf, PV.one, thn, inBlk, jmp, fldP, ldP, ldC, live, Cells.len, Cells.get, Cells.w, sug, ldv, bin, ops2, sh2, binv, Tk.agg, stC, apC, rdS, apS, mvL, zp, argsP, idx, fillP, toInts, chunks, mkC, ixS, ixA, oidx, slP, sl0, mxF, bltn, frzA, frz, frzL, frz1, pur1, Cells.pur, PV.scal, scal1, runD, rdO, PV.ids, id1, zids, ety, Eff.on, cnd, minb, and1b, ifmax, ifmin, mxv, sugI, strv, w0, w1, w2, wm1, manyL_len, List.take_succ_cons, List.take_zero, List.drop_succ_cons, List.drop_zero]
  refine .inl ⟨_, reedpipelaw10_alive_ok, ?_⟩
  try simp (maxSteps := 1000000) [runs, gd, step1, need, evu, un, opnds, opv, ev, cst, cst1, cstL, getT, getH, putT, onL, nxt, argT, cellsOf, PV.one, thn, inBlk, jmp, fldP, ldP, ldC, live, Cells.len, Cells.get, Cells.w, sug, ldv, bin, ops2, sh2, binv, Tk.agg, stC, apC, rdS, apS, mvL, zp, argsP, idx, fillP, toInts, chunks, mkC, ixS, ixA, oidx, slP, sl0, mxF, bltn, frzA, frz, frzL, frz1, pur1, Cells.pur, PV.scal, scal1, runD, rdO, PV.ids, id1, zids, ety, Eff.on, cnd, minb, and1b, ifmax, ifmin, mxv, sugI, strv, w0, w1, w2, wm1, manyL_len]
  repeat' (first | apply And.intro | intro _)
  any_goals (first | (refine hR3 _ ?_; clear hR3) | (first | omega | (simp only [IntKind.wrap_i64] at *; omega) | (simp_all; done) | (simp_all; omega)))
  try simp (maxSteps := 1000000) [runs, gd, step1, need, evu, un, opnds, opv, ev, cst, cst1, cstL, getT, getH, putT, onL, nxt, argT, cellsOf, PV.one, thn, inBlk, jmp, fldP, ldP, ldC, live, Cells.len, Cells.get, Cells.w, sug, ldv, bin, ops2, sh2, binv, Tk.agg, stC, apC, rdS, apS, mvL, zp, argsP, idx, fillP, toInts, chunks, mkC, ixS, ixA, oidx, slP, sl0, mxF, bltn, frzA, frz, frzL, frz1, pur1, Cells.pur, PV.scal, scal1, runD, rdO, PV.ids, id1, zids, ety, Eff.on, cnd, minb, and1b, ifmax, ifmin, mxv, sugI, strv, w0, w1, w2, wm1, manyL_len, List.take_succ_cons, List.take_zero, List.drop_succ_cons, List.drop_zero]
  repeat' (first | apply And.intro | intro _)
  any_goals (first | (refine hK2 _ ?_; clear hK2) | (first | omega | (simp only [IntKind.wrap_i64] at *; omega) | (simp_all; done) | (simp_all; omega)))
  refine swp_seq fun K4 hK4 => ?_
  refine swp_seq fun K5 hK5 => ?_
  refine swp_region ty_ok ?_
  try simp (maxSteps := 1000000) [runs, gd, step1, need, evu, un, opnds, opv, ev, cst, cst1, cstL, getT, getH, putT, onL, nxt, argT, cellsOf, PV.one, thn, inBlk, jmp, fldP, ldP, ldC, live, Cells.len, Cells.get, Cells.w, sug, ldv, bin, ops2, sh2, binv, Tk.agg, stC, apC, rdS, apS, mvL, zp, argsP, idx, fillP, toInts, chunks, mkC, ixS, ixA, oidx, slP, sl0, mxF, bltn, frzA, frz, frzL, frz1, pur1, Cells.pur, PV.scal, scal1, runD, rdO, PV.ids, id1, zids, ety, Eff.on, cnd, minb, and1b, ifmax, ifmin, mxv, sugI, strv, w0, w1, w2, wm1, manyL_len]
  repeat' (first | apply And.intro | intro _)
  any_goals (first | (refine hK5 _ ?_; clear hK5) | (first | omega | (simp only [IntKind.wrap_i64] at *; omega) | (simp_all; done) | (simp_all; omega)))
  refine swp_if fun C6 hC6 => ?_
  try simp (maxSteps := 1000000) [runs, gd, step1, need, evu, un, opnds, opv, ev, cst, cst1, cstL, getT, getH, putT, onL, nxt, argT, cellsOf, PV.one, thn, inBlk, jmp, fldP, ldP, ldC, live, Cells.len, Cells.get, Cells.w, sug, ldv, bin, ops2, sh2, binv, Tk.agg, stC, apC, rdS, apS, mvL, zp, argsP, idx, fillP, toInts, chunks, mkC, ixS, ixA, oidx, slP, sl0, mxF, bltn, frzA, frz, frzL, frz1, pur1, Cells.pur, PV.scal, scal1, runD, rdO, PV.ids, id1, zids, ety, Eff.on, cnd, minb, and1b, ifmax, ifmin, mxv, sugI, strv, w0, w1, w2, wm1, manyL_len]
  refine hC6 _ (fun hc6 => ?_) (fun hc6 => ?_)
  · clear hC6
    try simp at hc6
    refine swp_seq fun K7 hK7 => ?_
    refine swp_region ty_ok ?_
    try simp (maxSteps := 1000000) [runs, gd, step1, need, evu, un, opnds, opv, ev, cst, cst1, cstL, getT, getH, putT, onL, nxt, argT, cellsOf, PV.one, thn, inBlk, jmp, fldP, ldP, ldC, live, Cells.len, Cells.get, Cells.w, sug, ldv, bin, ops2, sh2, binv, Tk.agg, stC, apC, rdS, apS, mvL, zp, argsP, idx, fillP, toInts, chunks, mkC, ixS, ixA, oidx, slP, sl0, mxF, bltn, frzA, frz, frzL, frz1, pur1, Cells.pur, PV.scal, scal1, runD, rdO, PV.ids, id1, zids, ety, Eff.on, cnd, minb, and1b, ifmax, ifmin, mxv, sugI, strv, w0, w1, w2, wm1, manyL_len]
    repeat' (first | apply And.intro | intro _)
    any_goals (first | (refine hK7 _ ?_; clear hK7) | (first | omega | (simp only [IntKind.wrap_i64] at *; omega) | (simp_all; done) | (simp_all; omega)))
    refine swp_ret ?_
    simp [runs, gd, step1, need, evu, un, opnds, opv, ev, cst, cst1, cstL, getT, getH, putT, onL, nxt, argT, cellsOf, PV.one, thn, inBlk, jmp, fldP, ldP, ldC, live, Cells.len, Cells.get, Cells.w, sug, ldv, bin, ops2, sh2, binv, Tk.agg, stC, apC, rdS, apS, mvL, zp, argsP, idx, fillP, toInts, chunks, mkC, ixS, ixA, oidx, slP, sl0, mxF, bltn, frzA, frz, frzL, frz1, pur1, Cells.pur, PV.scal, scal1, runD, rdO, PV.ids, id1, zids, ety, Eff.on, cnd, minb, and1b, ifmax, ifmin, mxv, sugI, strv, w0, w1, w2, wm1, fnPost, Try.results4, resP, tupOf]
  · clear hC6
    try simp at hc6
    refine swp_skip ?_
    simp only [thn, inBlk]
    refine hK4 _ ?_; clear hK4
    refine swp_seq fun K8 hK8 => ?_
    refine swp_region ty_ok ?_
    refine runs_cut 1 fun R9 hR9 => ?_
    try simp (maxSteps := 1000000) [runs, gd, step1, need, evu, un, opnds, opv, ev, cst, cst1, cstL, getT, getH, putT, onL, nxt, argT, cellsOf, PV.one, thn, inBlk, jmp, fldP, ldP, ldC, live, Cells.len, Cells.get, Cells.w, sug, ldv, bin, ops2, sh2, binv, Tk.agg, stC, apC, rdS, apS, mvL, zp, argsP, idx, fillP, toInts, chunks, mkC, ixS, ixA, oidx, slP, sl0, mxF, bltn, frzA, frz, frzL, frz1, pur1, Cells.pur, PV.scal, scal1, runD, rdO, PV.ids, id1, zids, ety, Eff.on, cnd, minb, and1b, ifmax, ifmin, mxv, sugI, strv, w0, w1, w2, wm1, manyL_len, List.take_succ_cons, List.take_zero, List.drop_succ_cons, List.drop_zero]
    repeat' (first | apply And.intro | intro _)
    any_goals (first | (refine hR9 _ ?_; clear hR9) | (first | omega | (simp only [IntKind.wrap_i64] at *; omega) | (simp_all; done) | (simp_all; omega)))
    refine runs_cut 1 fun R10 hR10 => ?_
    try simp (maxSteps := 1000000) [runs, gd, step1, need, evu, un, opnds, opv, ev, cst, cst1, cstL, getT, getH, putT, onL, nxt, argT, cellsOf, PV.one, thn, inBlk, jmp, fldP, ldP, ldC, live, Cells.len, Cells.get, Cells.w, sug, ldv, bin, ops2, sh2, binv, Tk.agg, stC, apC, rdS, apS, mvL, zp, argsP, idx, fillP, toInts, chunks, mkC, ixS, ixA, oidx, slP, sl0, mxF, bltn, frzA, frz, frzL, frz1, pur1, Cells.pur, PV.scal, scal1, runD, rdO, PV.ids, id1, zids, ety, Eff.on, cnd, minb, and1b, ifmax, ifmin, mxv, sugI, strv, w0, w1, w2, wm1, manyL_len, List.take_succ_cons, List.take_zero, List.drop_succ_cons, List.drop_zero]
    refine .inl ⟨_, info_Windows_ok s sh m g (by omega), ?_⟩
    try simp (maxSteps := 1000000) [runs, gd, step1, need, evu, un, opnds, opv, ev, cst, cst1, cstL, getT, getH, putT, onL, nxt, argT, cellsOf, PV.one, thn, inBlk, jmp, fldP, ldP, ldC, live, Cells.len, Cells.get, Cells.w, sug, ldv, bin, ops2, sh2, binv, Tk.agg, stC, apC, rdS, apS, mvL, zp, argsP, idx, fillP, toInts, chunks, mkC, ixS, ixA, oidx, slP, sl0, mxF, bltn, frzA, frz, frzL, frz1, pur1, Cells.pur, PV.scal, scal1, runD, rdO, PV.ids, id1, zids, ety, Eff.on, cnd, minb, and1b, ifmax, ifmin, mxv, sugI, strv, w0, w1, w2, wm1, manyL_len]
    repeat' (first | apply And.intro | intro _)
    any_goals (first | (refine hR10 _ ?_; clear hR10) | (first | omega | (simp only [IntKind.wrap_i64] at *; omega) | (simp_all; done) | (simp_all; omega)))
    try simp (maxSteps := 1000000) [runs, gd, step1, need, evu, un, opnds, opv, ev, cst, cst1, cstL, getT, getH, putT, onL, nxt, argT, cellsOf, PV.one, thn, inBlk, jmp, fldP, ldP, ldC, live, Cells.len, Cells.get, Cells.w, sug, ldv, bin, ops2, sh2, binv, Tk.agg, stC, apC, rdS, apS, mvL, zp, argsP, idx, fillP, toInts, chunks, mkC, ixS, ixA, oidx, slP, sl0, mxF, bltn, frzA, frz, frzL, frz1, pur1, Cells.pur, PV.scal, scal1, runD, rdO, PV.ids, id1, zids, ety, Eff.on, cnd, minb, and1b, ifmax, ifmin, mxv, sugI, strv, w0, w1, w2, wm1, manyL_len, List.take_succ_cons, List.take_zero, List.drop_succ_cons, List.drop_zero]
    repeat' (first | apply And.intro | intro _)
    any_goals (first | (refine hK8 _ ?_; clear hK8) | (first | omega | (simp only [IntKind.wrap_i64] at *; omega) | (simp_all; done) | (simp_all; omega)))
    refine swp_seq fun K11 hK11 => ?_
    refine swp_seq fun K12 hK12 => ?_
    refine swp_region ty_ok ?_
    try simp (maxSteps := 1000000) [runs, gd, step1, need, evu, un, opnds, opv, ev, cst, cst1, cstL, getT, getH, putT, onL, nxt, argT, cellsOf, PV.one, thn, inBlk, jmp, fldP, ldP, ldC, live, Cells.len, Cells.get, Cells.w, sug, ldv, bin, ops2, sh2, binv, Tk.agg, stC, apC, rdS, apS, mvL, zp, argsP, idx, fillP, toInts, chunks, mkC, ixS, ixA, oidx, slP, sl0, mxF, bltn, frzA, frz, frzL, frz1, pur1, Cells.pur, PV.scal, scal1, runD, rdO, PV.ids, id1, zids, ety, Eff.on, cnd, minb, and1b, ifmax, ifmin, mxv, sugI, strv, w0, w1, w2, wm1, manyL_len]
    repeat' (first | apply And.intro | intro _)
    any_goals (first | (refine hK12 _ ?_; clear hK12) | (first | omega | (simp only [IntKind.wrap_i64] at *; omega) | (simp_all; done) | (simp_all; omega)))
    refine swp_if fun C13 hC13 => ?_
    try simp (maxSteps := 1000000) [runs, gd, step1, need, evu, un, opnds, opv, ev, cst, cst1, cstL, getT, getH, putT, onL, nxt, argT, cellsOf, PV.one, thn, inBlk, jmp, fldP, ldP, ldC, live, Cells.len, Cells.get, Cells.w, sug, ldv, bin, ops2, sh2, binv, Tk.agg, stC, apC, rdS, apS, mvL, zp, argsP, idx, fillP, toInts, chunks, mkC, ixS, ixA, oidx, slP, sl0, mxF, bltn, frzA, frz, frzL, frz1, pur1, Cells.pur, PV.scal, scal1, runD, rdO, PV.ids, id1, zids, ety, Eff.on, cnd, minb, and1b, ifmax, ifmin, mxv, sugI, strv, w0, w1, w2, wm1, manyL_len]
    refine hC13 _ (fun hc13 => ?_) (fun hc13 => ?_)
    · clear hC13
      try simp at hc13
      refine swp_seq fun K14 hK14 => ?_
      refine swp_region ty_ok ?_
      refine runs_cut 1 fun R15 hR15 => ?_
      try simp (maxSteps := 1000000) [runs, gd, step1, need, evu, un, opnds, opv, ev, cst, cst1, cstL, getT, getH, putT, onL, nxt, argT, cellsOf, PV.one, thn, inBlk, jmp, fldP, ldP, ldC, live, Cells.len, Cells.get, Cells.w, sug, ldv, bin, ops2, sh2, binv, Tk.agg, stC, apC, rdS, apS, mvL, zp, argsP, idx, fillP, toInts, chunks, mkC, ixS, ixA, oidx, slP, sl0, mxF, bltn, frzA, frz, frzL, frz1, pur1, Cells.pur, PV.scal, scal1, runD, rdO, PV.ids, id1, zids, ety, Eff.on, cnd, minb, and1b, ifmax, ifmin, mxv, sugI, strv, w0, w1, w2, wm1, manyL_len, List.take_succ_cons, List.take_zero, List.drop_succ_cons, List.drop_zero]
      repeat' (first | apply And.intro | intro _)
      any_goals (first | (refine hR15 _ ?_; clear hR15) | (first | omega | (simp only [IntKind.wrap_i64] at *; omega) | (simp_all; done) | (simp_all; omega)))
      refine runs_cut 1 fun R16 hR16 => ?_
      try simp (maxSteps := 1000000) [runs, gd, step1, need, evu, un, opnds, opv, ev, cst, cst1, cstL, getT, getH, putT, onL, nxt, argT, cellsOf, PV.one, thn, inBlk, jmp, fldP, ldP, ldC, live, Cells.len, Cells.get, Cells.w, sug, ldv, bin, ops2, sh2, binv, Tk.agg, stC, apC, rdS, apS, mvL, zp, argsP, idx, fillP, toInts, chunks, mkC, ixS, ixA, oidx, slP, sl0, mxF, bltn, frzA, frz, frzL, frz1, pur1, Cells.pur, PV.scal, scal1, runD, rdO, PV.ids, id1, zids, ety, Eff.on, cnd, minb, and1b, ifmax, ifmin, mxv, sugI, strv, w0, w1, w2, wm1, manyL_len, List.take_succ_cons, List.take_zero, List.drop_succ_cons, List.drop_zero]
      refine .inl ⟨_, info_Group_ok s sh m g (by omega) 0, ?_⟩
      try simp (maxSteps := 1000000) [runs, gd, step1, need, evu, un, opnds, opv, ev, cst, cst1, cstL, getT, getH, putT, onL, nxt, argT, cellsOf, PV.one, thn, inBlk, jmp, fldP, ldP, ldC, live, Cells.len, Cells.get, Cells.w, sug, ldv, bin, ops2, sh2, binv, Tk.agg, stC, apC, rdS, apS, mvL, zp, argsP, idx, fillP, toInts, chunks, mkC, ixS, ixA, oidx, slP, sl0, mxF, bltn, frzA, frz, frzL, frz1, pur1, Cells.pur, PV.scal, scal1, runD, rdO, PV.ids, id1, zids, ety, Eff.on, cnd, minb, and1b, ifmax, ifmin, mxv, sugI, strv, w0, w1, w2, wm1, manyL_len]
      repeat' (first | apply And.intro | intro _)
      any_goals (first | (refine hR16 _ ?_; clear hR16) | (first | omega | (simp only [IntKind.wrap_i64] at *; omega) | (simp_all; done) | (simp_all; omega)))
      try simp (maxSteps := 1000000) [runs, gd, step1, need, evu, un, opnds, opv, ev, cst, cst1, cstL, getT, getH, putT, onL, nxt, argT, cellsOf, PV.one, thn, inBlk, jmp, fldP, ldP, ldC, live, Cells.len, Cells.get, Cells.w, sug, ldv, bin, ops2, sh2, binv, Tk.agg, stC, apC, rdS, apS, mvL, zp, argsP, idx, fillP, toInts, chunks, mkC, ixS, ixA, oidx, slP, sl0, mxF, bltn, frzA, frz, frzL, frz1, pur1, Cells.pur, PV.scal, scal1, runD, rdO, PV.ids, id1, zids, ety, Eff.on, cnd, minb, and1b, ifmax, ifmin, mxv, sugI, strv, w0, w1, w2, wm1, manyL_len, List.take_succ_cons, List.take_zero, List.drop_succ_cons, List.drop_zero]
      repeat' (first | apply And.intro | intro _)
      any_goals (first | (refine hK14 _ ?_; clear hK14) | (first | omega | (simp only [IntKind.wrap_i64] at *; omega) | (simp_all; done) | (simp_all; omega)))
      refine swp_seq fun K17 hK17 => ?_
      refine swp_region ty_ok ?_
      try simp (maxSteps := 1000000) [runs, gd, step1, need, evu, un, opnds, opv, ev, cst, cst1, cstL, getT, getH, putT, onL, nxt, argT, cellsOf, PV.one, thn, inBlk, jmp, fldP, ldP, ldC, live, Cells.len, Cells.get, Cells.w, sug, ldv, bin, ops2, sh2, binv, Tk.agg, stC, apC, rdS, apS, mvL, zp, argsP, idx, fillP, toInts, chunks, mkC, ixS, ixA, oidx, slP, sl0, mxF, bltn, frzA, frz, frzL, frz1, pur1, Cells.pur, PV.scal, scal1, runD, rdO, PV.ids, id1, zids, ety, Eff.on, cnd, minb, and1b, ifmax, ifmin, mxv, sugI, strv, w0, w1, w2, wm1, manyL_len]
      repeat' (first | apply And.intro | intro _)
      any_goals (first | (refine hK17 _ ?_; clear hK17) | (first | omega | (simp only [IntKind.wrap_i64] at *; omega) | (simp_all; done) | (simp_all; omega)))
      refine swp_ret ?_
      simp [runs, gd, step1, need, evu, un, opnds, opv, ev, cst, cst1, cstL, getT, getH, putT, onL, nxt, argT, cellsOf, PV.one, thn, inBlk, jmp, fldP, ldP, ldC, live, Cells.len, Cells.get, Cells.w, sug, ldv, bin, ops2, sh2, binv, Tk.agg, stC, apC, rdS, apS, mvL, zp, argsP, idx, fillP, toInts, chunks, mkC, ixS, ixA, oidx, slP, sl0, mxF, bltn, frzA, frz, frzL, frz1, pur1, Cells.pur, PV.scal, scal1, runD, rdO, PV.ids, id1, zids, ety, Eff.on, cnd, minb, and1b, ifmax, ifmin, mxv, sugI, strv, w0, w1, w2, wm1, fnPost, Try.results4, resP, tupOf]
      have h := grp_bad (w := 0) (winE_no (by assumption)); exact ⟨h.2.2.2, h.1.trans h.2.2.1.symm⟩
    · clear hC13
      try simp at hc13
      refine swp_skip ?_
      simp only [thn, inBlk]
      refine hK11 _ ?_; clear hK11
      refine swp_seq fun K18 hK18 => ?_
      have hm11 := winE_yes (by assumption : winE s sh m g = 0)
      obtain ⟨hp1, hp2, hp3⟩ := may_pos hm11
      have hlen := sum_len hp1
      refine swp_region ty_ok ?_
      refine runs_cut 3 fun R19 hR19 => ?_
      try simp (maxSteps := 1000000) [runs, gd, step1, need, evu, un, opnds, opv, ev, cst, cst1, cstL, getT, getH, putT, onL, nxt, argT, cellsOf, PV.one, thn, inBlk, jmp, fldP, ldP, ldC, live, Cells.len, Cells.get, Cells.w, sug, ldv, bin, ops2, sh2, binv, Tk.agg, stC, apC, rdS, apS, mvL, zp, argsP, idx, fillP, toInts, chunks, mkC, ixS, ixA, oidx, slP, sl0, mxF, bltn, frzA, frz, frzL, frz1, pur1, Cells.pur, PV.scal, scal1, runD, rdO, PV.ids, id1, zids, ety, Eff.on, cnd, minb, and1b, ifmax, ifmin, mxv, sugI, strv, w0, w1, w2, wm1, manyL_len, List.take_succ_cons, List.take_zero, List.drop_succ_cons, List.drop_zero]
      repeat' (first | apply And.intro | intro _)
      any_goals (first | (refine hR19 _ ?_; clear hR19) | (first | omega | (simp only [IntKind.wrap_i64] at *; omega) | (simp_all; done) | (simp_all; omega)))
      refine runs_cut 1 fun R20 hR20 => ?_
      try simp (maxSteps := 1000000) [runs, gd, step1, need, evu, un, opnds, opv, ev, cst, cst1, cstL, getT, getH, putT, onL, nxt, argT, cellsOf, PV.one, thn, inBlk, jmp, fldP, ldP, ldC, live, Cells.len, Cells.get, Cells.w, sug, ldv, bin, ops2, sh2, binv, Tk.agg, stC, apC, rdS, apS, mvL, zp, argsP, idx, fillP, toInts, chunks, mkC, ixS, ixA, oidx, slP, sl0, mxF, bltn, frzA, frz, frzL, frz1, pur1, Cells.pur, PV.scal, scal1, runD, rdO, PV.ids, id1, zids, ety, Eff.on, cnd, minb, and1b, ifmax, ifmin, mxv, sugI, strv, w0, w1, w2, wm1, manyL_len, List.take_succ_cons, List.take_zero, List.drop_succ_cons, List.drop_zero]
      repeat' (first | apply And.intro | intro _)
      any_goals (first | (refine Or.inr (hR20 _ ?_); clear hR20) | (first | omega | (simp only [IntKind.wrap_i64] at *; omega) | (simp_all; done) | (simp_all; omega)))
      try simp (maxSteps := 1000000) [runs, gd, step1, need, evu, un, opnds, opv, ev, cst, cst1, cstL, getT, getH, putT, onL, nxt, argT, cellsOf, PV.one, thn, inBlk, jmp, fldP, ldP, ldC, live, Cells.len, Cells.get, Cells.w, sug, ldv, bin, ops2, sh2, binv, Tk.agg, stC, apC, rdS, apS, mvL, zp, argsP, idx, fillP, toInts, chunks, mkC, ixS, ixA, oidx, slP, sl0, mxF, bltn, frzA, frz, frzL, frz1, pur1, Cells.pur, PV.scal, scal1, runD, rdO, PV.ids, id1, zids, ety, Eff.on, cnd, minb, and1b, ifmax, ifmin, mxv, sugI, strv, w0, w1, w2, wm1, manyL_len, List.take_succ_cons, List.take_zero, List.drop_succ_cons, List.drop_zero]
      repeat' (first | apply And.intro | intro _)
      any_goals (first | (refine hK18 _ ?_; clear hK18) | (first | omega | (simp only [IntKind.wrap_i64] at *; omega) | (simp_all; done) | (simp_all; omega)))
      refine swp_seq fun K21 hK21 => ?_
      refine swp_region ty_ok ?_
      try simp (maxSteps := 1000000) [runs, gd, step1, need, evu, un, opnds, opv, ev, cst, cst1, cstL, getT, getH, putT, onL, nxt, argT, cellsOf, PV.one, thn, inBlk, jmp, fldP, ldP, ldC, live, Cells.len, Cells.get, Cells.w, sug, ldv, bin, ops2, sh2, binv, Tk.agg, stC, apC, rdS, apS, mvL, zp, argsP, idx, fillP, toInts, chunks, mkC, ixS, ixA, oidx, slP, sl0, mxF, bltn, frzA, frz, frzL, frz1, pur1, Cells.pur, PV.scal, scal1, runD, rdO, PV.ids, id1, zids, ety, Eff.on, cnd, minb, and1b, ifmax, ifmin, mxv, sugI, strv, w0, w1, w2, wm1, manyL_len]
      repeat' (first | apply And.intro | intro _)
      any_goals (first | (refine hK21 _ ?_; clear hK21) | (first | omega | (simp only [IntKind.wrap_i64] at *; omega) | (simp_all; done) | (simp_all; omega)))
      refine swp_seq fun K22 hK22 => ?_
      refine swp_seq fun K23 hK23 => ?_
      refine swp_region ty_ok ?_
      try simp (maxSteps := 1000000) [runs, gd, step1, need, evu, un, opnds, opv, ev, cst, cst1, cstL, getT, getH, putT, onL, nxt, argT, cellsOf, PV.one, thn, inBlk, jmp, fldP, ldP, ldC, live, Cells.len, Cells.get, Cells.w, sug, ldv, bin, ops2, sh2, binv, Tk.agg, stC, apC, rdS, apS, mvL, zp, argsP, idx, fillP, toInts, chunks, mkC, ixS, ixA, oidx, slP, sl0, mxF, bltn, frzA, frz, frzL, frz1, pur1, Cells.pur, PV.scal, scal1, runD, rdO, PV.ids, id1, zids, ety, Eff.on, cnd, minb, and1b, ifmax, ifmin, mxv, sugI, strv, w0, w1, w2, wm1, manyL_len]
      repeat' (first | apply And.intro | intro _)
      any_goals (first | (refine hK23 _ ?_; clear hK23) | (first | omega | (simp only [IntKind.wrap_i64] at *; omega) | (simp_all; done) | (simp_all; omega)))
      refine swp_block ?_
      refine swp_loop 2 (fun m_ s_ => ∃ (w : Nat), ((w : Int) ≤ winI s sh m g) ∧ s_ = ⟨[(1, .ptr 0 0 0 1), (4, .int .i64 (winI s sh m g)), (8, .sl 1 0 g.length g.length), (9, .int .i64 (lastG g w : Nat)), (10, .int .i64 (w : Nat))], [(0, some ⟨.rows 4 [[.int .u8 s, .int .u8 sh, .int .i64 m, .ro (.ints .i64 g)]], true, 24⟩), (1, some ⟨.ints .i64 (manyL g w), false, 3⟩)], 2⟩ ∧ m_ = (winI s sh m g).toNat - w) _ ⟨[(1, .ptr 0 0 0 1), (4, .int .i64 (winI s sh m g)), (8, .sl 1 0 g.length g.length), (9, .int .i64 (lastG g 0 : Nat)), (10, .int .i64 (0 : Nat))], [(0, some ⟨.rows 4 [[.int .u8 s, .int .u8 sh, .int .i64 m, .ro (.ints .i64 g)]], true, 24⟩), (1, some ⟨.ints .i64 (manyL g 0), false, 3⟩)], 2⟩ ⟨by simp [getT, PV.lo, lo1, lastG], by simp [getH, Blk.lo, Cells.lo, lo1, manyL_zero], rfl, by omega⟩ ⟨(0), by (first | omega | (simp only [IntKind.wrap_i64] at *; omega) | (simp_all; done) | (simp_all; omega)), rfl, rfl⟩ ?_
      rintro m_ s_ ⟨w, hL24_0, rfl, rfl⟩ KL24 hL24
      have hw : IntKind.i64.wrap ((w : Int) + 1) = (((w + 1 : Nat)) : Int) := wnext (by omega)
      have hg0 : w < winI s sh m g → grpN s sh m g (w : Int) = (grp g (w : Int) : Nat) := fun h => (grp_ok hm11 (by omega)).2
      have hE0 : w < winI s sh m g → grpE s sh m g (w : Int) = 0 := fun h => (grp_ok hm11 (by omega)).1
      have hlt : w < winI s sh m g → grp g (w : Int) < g.length := fun h => grp_lt g w hp1 (by omega) (by omega)
      have hla := last_ok g w hp1
      have hcl := cntG_le g w (grp g (w : Int))
      refine swp_seq fun K25 hK25 => ?_
      refine swp_seq fun K26 hK26 => ?_
      refine swp_region ty_ok ?_
      try simp (maxSteps := 1000000) [runs, gd, step1, need, evu, un, opnds, opv, ev, cst, cst1, cstL, getT, getH, putT, onL, nxt, argT, cellsOf, PV.one, thn, inBlk, jmp, fldP, ldP, ldC, live, Cells.len, Cells.get, Cells.w, sug, ldv, bin, ops2, sh2, binv, Tk.agg, stC, apC, rdS, apS, mvL, zp, argsP, idx, fillP, toInts, chunks, mkC, ixS, ixA, oidx, slP, sl0, mxF, bltn, frzA, frz, frzL, frz1, pur1, Cells.pur, PV.scal, scal1, runD, rdO, PV.ids, id1, zids, ety, Eff.on, cnd, minb, and1b, ifmax, ifmin, mxv, sugI, strv, w0, w1, w2, wm1, manyL_len]
      repeat' (first | apply And.intro | intro _)
      any_goals (first | (refine hK26 _ ?_; clear hK26) | (first | omega | (simp only [IntKind.wrap_i64] at *; omega) | (simp_all; done) | (simp_all; omega)))
      refine swp_if fun C27 hC27 => ?_
      try simp (maxSteps := 1000000) [runs, gd, step1, need, evu, un, opnds, opv, ev, cst, cst1, cstL, getT, getH, putT, onL, nxt, argT, cellsOf, PV.one, thn, inBlk, jmp, fldP, ldP, ldC, live, Cells.len, Cells.get, Cells.w, sug, ldv, bin, ops2, sh2, binv, Tk.agg, stC, apC, rdS, apS, mvL, zp, argsP, idx, fillP, toInts, chunks, mkC, ixS, ixA, oidx, slP, sl0, mxF, bltn, frzA, frz, frzL, frz1, pur1, Cells.pur, PV.scal, scal1, runD, rdO, PV.ids, id1, zids, ety, Eff.on, cnd, minb, and1b, ifmax, ifmin, mxv, sugI, strv, w0, w1, w2, wm1, manyL_len]
      refine hC27 _ (fun hc27 => ?_) (fun hc27 => ?_)
      · clear hC27
        try simp at hc27
        refine swp_skip ?_
        simp only [thn, inBlk]
        refine hK25 _ ?_; clear hK25
        refine swp_seq fun K28 hK28 => ?_
        refine swp_block ?_
        refine swp_seq fun K29 hK29 => ?_
        refine swp_region ty_ok ?_
        refine runs_cut 2 fun R30 hR30 => ?_
        try simp (maxSteps := 1000000) [runs, gd, step1, need, evu, un, opnds, opv, ev, cst, cst1, cstL, getT, getH, putT, onL, nxt, argT, cellsOf, PV.one, thn, inBlk, jmp, fldP, ldP, ldC, live, Cells.len, Cells.get, Cells.w, sug, ldv, bin, ops2, sh2, binv, Tk.agg, stC, apC, rdS, apS, mvL, zp, argsP, idx, fillP, toInts, chunks, mkC, ixS, ixA, oidx, slP, sl0, mxF, bltn, frzA, frz, frzL, frz1, pur1, Cells.pur, PV.scal, scal1, runD, rdO, PV.ids, id1, zids, ety, Eff.on, cnd, minb, and1b, ifmax, ifmin, mxv, sugI, strv, w0, w1, w2, wm1, manyL_len, List.take_succ_cons, List.take_zero, List.drop_succ_cons, List.drop_zero]
        repeat' (first | apply And.intro | intro _)
        any_goals (first | (refine hR30 _ ?_; clear hR30) | (first | omega | (simp only [IntKind.wrap_i64] at *; omega) | (simp_all; done) | (simp_all; omega)))
        refine runs_cut 1 fun R31 hR31 => ?_
        try simp (maxSteps := 1000000) [runs, gd, step1, need, evu, un, opnds, opv, ev, cst, cst1, cstL, getT, getH, putT, onL, nxt, argT, cellsOf, PV.one, thn, inBlk, jmp, fldP, ldP, ldC, live, Cells.len, Cells.get, Cells.w, sug, ldv, bin, ops2, sh2, binv, Tk.agg, stC, apC, rdS, apS, mvL, zp, argsP, idx, fillP, toInts, chunks, mkC, ixS, ixA, oidx, slP, sl0, mxF, bltn, frzA, frz, frzL, frz1, pur1, Cells.pur, PV.scal, scal1, runD, rdO, PV.ids, id1, zids, ety, Eff.on, cnd, minb, and1b, ifmax, ifmin, mxv, sugI, strv, w0, w1, w2, wm1, manyL_len, List.take_succ_cons, List.take_zero, List.drop_succ_cons, List.drop_zero]
        refine .inl ⟨_, (by have h := info_Group_ok s sh m g (by omega) (w : Int); rw [hg0 (by omega), hE0 (by omega)] at h; exact h), ?_⟩
        try simp (maxSteps := 1000000) [runs, gd, step1, need, evu, un, opnds, opv, ev, cst, cst1, cstL, getT, getH, putT, onL, nxt, argT, cellsOf, PV.one, thn, inBlk, jmp, fldP, ldP, ldC, live, Cells.len, Cells.get, Cells.w, sug, ldv, bin, ops2, sh2, binv, Tk.agg, stC, apC, rdS, apS, mvL, zp, argsP, idx, fillP, toInts, chunks, mkC, ixS, ixA, oidx, slP, sl0, mxF, bltn, frzA, frz, frzL, frz1, pur1, Cells.pur, PV.scal, scal1, runD, rdO, PV.ids, id1, zids, ety, Eff.on, cnd, minb, and1b, ifmax, ifmin, mxv, sugI, strv, w0, w1, w2, wm1, manyL_len]
        repeat' (first | apply And.intro | intro _)
        any_goals (first | (refine hR31 _ ?_; clear hR31) | (first | omega | (simp only [IntKind.wrap_i64] at *; omega) | (simp_all; done) | (simp_all; omega)))
        try simp (maxSteps := 1000000) [runs, gd, step1, need, evu, un, opnds, opv, ev, cst, cst1, cstL, getT, getH, putT, onL, nxt, argT, cellsOf, PV.one, thn, inBlk, jmp, fldP, ldP, ldC, live, Cells.len, Cells.get, Cells.w, sug, ldv, bin, ops2, sh2, binv, Tk.agg, stC, apC, rdS, apS, mvL, zp, argsP, idx, fillP, toInts, chunks, mkC, ixS, ixA, oidx, slP, sl0, mxF, bltn, frzA, frz, frzL, frz1, pur1, Cells.pur, PV.scal, scal1, runD, rdO, PV.ids, id1, zids, ety, Eff.on, cnd, minb, and1b, ifmax, ifmin, mxv, sugI, strv, w0, w1, w2, wm1, manyL_len, List.take_succ_cons, List.take_zero, List.drop_succ_cons, List.drop_zero]
        repeat' (first | apply And.intro | intro _)
        any_goals (first | (refine hK29 _ ?_; clear hK29) | (first | omega | (simp only [IntKind.wrap_i64] at *; omega) | (simp_all; done) | (simp_all; omega)))
        refine swp_seq fun K32 hK32 => ?_
        refine swp_seq fun K33 hK33 => ?_
        refine swp_region ty_ok ?_
        refine runs_cut 9 fun R34 hR34 => ?_
        try simp (maxSteps := 1000000) [runs, gd, step1, need, evu, un, opnds, opv, ev, cst, cst1, cstL, getT, getH, putT, onL, nxt, argT, cellsOf, PV.one, thn, inBlk, jmp, fldP, ldP, ldC, live, Cells.len, Cells.get, Cells.w, sug, ldv, bin, ops2, sh2, binv, Tk.agg, stC, apC, rdS, apS, mvL, zp, argsP, idx, fillP, toInts, chunks, mkC, ixS, ixA, oidx, slP, sl0, mxF, bltn, frzA, frz, frzL, frz1, pur1, Cells.pur, PV.scal, scal1, runD, rdO, PV.ids, id1, zids, ety, Eff.on, cnd, minb, and1b, ifmax, ifmin, mxv, sugI, strv, w0, w1, w2, wm1, manyL_len, List.take_succ_cons, List.take_zero, List.drop_succ_cons, List.drop_zero]
        repeat' (first | apply And.intro | intro _)
        any_goals (first | (refine hR34 _ ?_; clear hR34) | (first | omega | (simp only [IntKind.wrap_i64] at *; omega) | (simp_all; done) | (simp_all; omega)))
        refine runs_cut 9 fun R35 hR35 => ?_
        try simp (maxSteps := 1000000) [runs, gd, step1, need, evu, un, opnds, opv, ev, cst, cst1, cstL, getT, getH, putT, onL, nxt, argT, cellsOf, PV.one, thn, inBlk, jmp, fldP, ldP, ldC, live, Cells.len, Cells.get, Cells.w, sug, ldv, bin, ops2, sh2, binv, Tk.agg, stC, apC, rdS, apS, mvL, zp, argsP, idx, fillP, toInts, chunks, mkC, ixS, ixA, oidx, slP, sl0, mxF, bltn, frzA, frz, frzL, frz1, pur1, Cells.pur, PV.scal, scal1, runD, rdO, PV.ids, id1, zids, ety, Eff.on, cnd, minb, and1b, ifmax, ifmin, mxv, sugI, strv, w0, w1, w2, wm1, manyL_len, List.take_succ_cons, List.take_zero, List.drop_succ_cons, List.drop_zero]
        repeat' (first | apply And.intro | intro _)
        any_goals (first | (refine hR35 _ ?_; clear hR35) | (first | omega | (simp only [IntKind.wrap_i64] at *; omega) | (simp_all; done) | (simp_all; omega)))
        try simp (maxSteps := 1000000) [runs, gd, step1, need, evu, un, opnds, opv, ev, cst, cst1, cstL, getT, getH, putT, onL, nxt, argT, cellsOf, PV.one, thn, inBlk, jmp, fldP, ldP, ldC, live, Cells.len, Cells.get, Cells.w, sug, ldv, bin, ops2, sh2, binv, Tk.agg, stC, apC, rdS, apS, mvL, zp, argsP, idx, fillP, toInts, chunks, mkC, ixS, ixA, oidx, slP, sl0, mxF, bltn, frzA, frz, frzL, frz1, pur1, Cells.pur, PV.scal, scal1, runD, rdO, PV.ids, id1, zids, ety, Eff.on, cnd, minb, and1b, ifmax, ifmin, mxv, sugI, strv, w0, w1, w2, wm1, manyL_len, List.take_succ_cons, List.take_zero, List.drop_succ_cons, List.drop_zero]
        repeat' (first | apply And.intro | intro _)
        any_goals (first | (refine hK33 _ ?_; clear hK33) | (first | omega | (simp only [IntKind.wrap_i64] at *; omega) | (simp_all; done) | (simp_all; omega)))
        refine swp_if fun C36 hC36 => ?_
        try simp (maxSteps := 1000000) [runs, gd, step1, need, evu, un, opnds, opv, ev, cst, cst1, cstL, getT, getH, putT, onL, nxt, argT, cellsOf, PV.one, thn, inBlk, jmp, fldP, ldP, ldC, live, Cells.len, Cells.get, Cells.w, sug, ldv, bin, ops2, sh2, binv, Tk.agg, stC, apC, rdS, apS, mvL, zp, argsP, idx, fillP, toInts, chunks, mkC, ixS, ixA, oidx, slP, sl0, mxF, bltn, frzA, frz, frzL, frz1, pur1, Cells.pur, PV.scal, scal1, runD, rdO, PV.ids, id1, zids, ety, Eff.on, cnd, minb, and1b, ifmax, ifmin, mxv, sugI, strv, w0, w1, w2, wm1, manyL_len]
        refine hC36 _ (fun hc36 => ?_) (fun hc36 => ?_)
        · clear hC36
          try simp at hc36
          refine swp_seq fun K37 hK37 => ?_
          refine swp_region ty_ok ?_
          try simp (maxSteps := 1000000) [runs, gd, step1, need, evu, un, opnds, opv, ev, cst, cst1, cstL, getT, getH, putT, onL, nxt, argT, cellsOf, PV.one, thn, inBlk, jmp, fldP, ldP, ldC, live, Cells.len, Cells.get, Cells.w, sug, ldv, bin, ops2, sh2, binv, Tk.agg, stC, apC, rdS, apS, mvL, zp, argsP, idx, fillP, toInts, chunks, mkC, ixS, ixA, oidx, slP, sl0, mxF, bltn, frzA, frz, frzL, frz1, pur1, Cells.pur, PV.scal, scal1, runD, rdO, PV.ids, id1, zids, ety, Eff.on, cnd, minb, and1b, ifmax, ifmin, mxv, sugI, strv, w0, w1, w2, wm1, manyL_len]
          repeat' (first | apply And.intro | intro _)
          any_goals (first | (refine hK37 _ ?_; clear hK37) | (first | omega | (simp only [IntKind.wrap_i64] at *; omega) | (simp_all; done) | (simp_all; omega)))
          refine swp_ret ?_
          simp [runs, gd, step1, need, evu, un, opnds, opv, ev, cst, cst1, cstL, getT, getH, putT, onL, nxt, argT, cellsOf, PV.one, thn, inBlk, jmp, fldP, ldP, ldC, live, Cells.len, Cells.get, Cells.w, sug, ldv, bin, ops2, sh2, binv, Tk.agg, stC, apC, rdS, apS, mvL, zp, argsP, idx, fillP, toInts, chunks, mkC, ixS, ixA, oidx, slP, sl0, mxF, bltn, frzA, frz, frzL, frz1, pur1, Cells.pur, PV.scal, scal1, runD, rdO, PV.ids, id1, zids, ety, Eff.on, cnd, minb, and1b, ifmax, ifmin, mxv, sugI, strv, w0, w1, w2, wm1, fnPost, Try.results4, resP, tupOf]
          have hlt2 := hlt (by omega)
          rw [w64 (n := ((lastG g w : Nat) : Int) + 1) (by omega)] at hc36
          omega
        · clear hC36
          try simp at hc36
          refine swp_skip ?_
          simp only [thn, inBlk]
          refine hK32 _ ?_; clear hK32
          refine swp_seq fun K38 hK38 => ?_
          refine swp_region ty_ok ?_
          try simp (maxSteps := 1000000) [runs, gd, step1, need, evu, un, opnds, opv, ev, cst, cst1, cstL, getT, getH, putT, onL, nxt, argT, cellsOf, PV.one, thn, inBlk, jmp, fldP, ldP, ldC, live, Cells.len, Cells.get, Cells.w, sug, ldv, bin, ops2, sh2, binv, Tk.agg, stC, apC, rdS, apS, mvL, zp, argsP, idx, fillP, toInts, chunks, mkC, ixS, ixA, oidx, slP, sl0, mxF, bltn, frzA, frz, frzL, frz1, pur1, Cells.pur, PV.scal, scal1, runD, rdO, PV.ids, id1, zids, ety, Eff.on, cnd, minb, and1b, ifmax, ifmin, mxv, sugI, strv, w0, w1, w2, wm1, manyL_len]
          repeat' (first | apply And.intro | intro _)
          any_goals (first | (refine hK38 _ ?_; clear hK38) | (first | omega | (simp only [IntKind.wrap_i64] at *; omega) | (simp_all; done) | (simp_all; omega)))
          refine swp_region ty_ok ?_
          try simp (maxSteps := 1000000) [runs, gd, step1, need, evu, un, opnds, opv, ev, cst, cst1, cstL, getT, getH, putT, onL, nxt, argT, cellsOf, PV.one, thn, inBlk, jmp, fldP, ldP, ldC, live, Cells.len, Cells.get, Cells.w, sug, ldv, bin, ops2, sh2, binv, Tk.agg, stC, apC, rdS, apS, mvL, zp, argsP, idx, fillP, toInts, chunks, mkC, ixS, ixA, oidx, slP, sl0, mxF, bltn, frzA, frz, frzL, frz1, pur1, Cells.pur, PV.scal, scal1, runD, rdO, PV.ids, id1, zids, ety, Eff.on, cnd, minb, and1b, ifmax, ifmin, mxv, sugI, strv, w0, w1, w2, wm1, manyL_len]
          repeat' (first | apply And.intro | intro _)
          any_goals (first | (refine hK28 _ ?_; clear hK28) | (first | omega | (simp only [IntKind.wrap_i64] at *; omega) | (simp_all; done) | (simp_all; omega)))
          refine swp_region ty_ok ?_
          try simp (maxSteps := 1000000) [runs, gd, step1, need, evu, un, opnds, opv, ev, cst, cst1, cstL, getT, getH, putT, onL, nxt, argT, cellsOf, PV.one, thn, inBlk, jmp, fldP, ldP, ldC, live, Cells.len, Cells.get, Cells.w, sug, ldv, bin, ops2, sh2, binv, Tk.agg, stC, apC, rdS, apS, mvL, zp, argsP, idx, fillP, toInts, chunks, mkC, ixS, ixA, oidx, slP, sl0, mxF, bltn, frzA, frz, frzL, frz1, pur1, Cells.pur, PV.scal, scal1, runD, rdO, PV.ids, id1, zids, ety, Eff.on, cnd, minb, and1b, ifmax, ifmin, mxv, sugI, strv, w0, w1, w2, wm1, manyL_len]
          repeat' apply And.intro
          any_goals (try omega)
          refine hL24 _ ⟨[(1, .ptr 0 0 0 1), (4, .int .i64 (winI s sh m g)), (8, .sl 1 0 g.length g.length), (9, .int .i64 (lastG g (w + 1) : Nat)), (10, .int .i64 ((w + 1) : Nat))], [(0, some ⟨.rows 4 [[.int .u8 s, .int .u8 sh, .int .i64 m, .ro (.ints .i64 g)]], true, 24⟩), (1, some ⟨.ints .i64 (manyL g (w + 1)), false, 3⟩)], 2⟩ _ ?_ ⟨(w + 1), by (first | omega | (simp only [IntKind.wrap_i64] at *; omega) | (simp_all; done) | (simp_all; omega)), rfl, rfl⟩ ⟨by simp [getT, PV.lo, lo1, hw, lastG], by (have hlt2 := hlt (by omega); have hms := manyL_succ g w hlt2; rw [manyL_get g w _ hlt2] at hms; simp [getH, Blk.lo, Cells.lo, lo1, hms, manyL_get g w _ hlt2]; rw [w64 (by omega)]), rfl, by omega⟩
          omega
      · clear hC27
        try simp at hc27
        refine swp_exit ?_
        simp [thn, inBlk]
        refine hK22 _ ?_; clear hK22
        refine swp_seq fun K39 hK39 => ?_
        refine swp_region ty_ok ?_
        refine runs_cut 2 fun R40 hR40 => ?_
        try simp (maxSteps := 1000000) [runs, gd, step1, need, evu, un, opnds, opv, ev, cst, cst1, cstL, getT, getH, putT, onL, nxt, argT, cellsOf, PV.one, thn, inBlk, jmp, fldP, ldP, ldC, live, Cells.len, Cells.get, Cells.w, sug, ldv, bin, ops2, sh2, binv, Tk.agg, stC, apC, rdS, apS, mvL, zp, argsP, idx, fillP, toInts, chunks, mkC, ixS, ixA, oidx, slP, sl0, mxF, bltn, frzA, frz, frzL, frz1, pur1, Cells.pur, PV.scal, scal1, runD, rdO, PV.ids, id1, zids, ety, Eff.on, cnd, minb, and1b, ifmax, ifmin, mxv, sugI, strv, w0, w1, w2, wm1, manyL_len, List.take_succ_cons, List.take_zero, List.drop_succ_cons, List.drop_zero]
        repeat' (first | apply And.intro | intro _)
        any_goals (first | (refine hR40 _ ?_; clear hR40) | (first | omega | (simp only [IntKind.wrap_i64] at *; omega) | (simp_all; done) | (simp_all; omega)))
        refine runs_cut 1 fun R41 hR41 => ?_
        try simp (maxSteps := 1000000) [runs, gd, step1, need, evu, un, opnds, opv, ev, cst, cst1, cstL, getT, getH, putT, onL, nxt, argT, cellsOf, PV.one, thn, inBlk, jmp, fldP, ldP, ldC, live, Cells.len, Cells.get, Cells.w, sug, ldv, bin, ops2, sh2, binv, Tk.agg, stC, apC, rdS, apS, mvL, zp, argsP, idx, fillP, toInts, chunks, mkC, ixS, ixA, oidx, slP, sl0, mxF, bltn, frzA, frz, frzL, frz1, pur1, Cells.pur, PV.scal, scal1, runD, rdO, PV.ids, id1, zids, ety, Eff.on, cnd, minb, and1b, ifmax, ifmin, mxv, sugI, strv, w0, w1, w2, wm1, manyL_len, List.take_succ_cons, List.take_zero, List.drop_succ_cons, List.drop_zero]
        refine .inl ⟨_, (by have h := info_Group_ok s sh m g (by omega) (winI s sh m g); rw [(grp_arg hm11 (by omega)).1, (grp_arg hm11 (by omega)).2] at h; exact h), ?_⟩
        try simp (maxSteps := 1000000) [runs, gd, step1, need, evu, un, opnds, opv, ev, cst, cst1, cstL, getT, getH, putT, onL, nxt, argT, cellsOf, PV.one, thn, inBlk, jmp, fldP, ldP, ldC, live, Cells.len, Cells.get, Cells.w, sug, ldv, bin, ops2, sh2, binv, Tk.agg, stC, apC, rdS, apS, mvL, zp, argsP, idx, fillP, toInts, chunks, mkC, ixS, ixA, oidx, slP, sl0, mxF, bltn, frzA, frz, frzL, frz1, pur1, Cells.pur, PV.scal, scal1, runD, rdO, PV.ids, id1, zids, ety, Eff.on, cnd, minb, and1b, ifmax, ifmin, mxv, sugI, strv, w0, w1, w2, wm1, manyL_len]
        repeat' (first | apply And.intro | intro _)
        any_goals (first | (refine hR41 _ ?_; clear hR41) | (first | omega | (simp only [IntKind.wrap_i64] at *; omega) | (simp_all; done) | (simp_all; omega)))
        try simp (maxSteps := 1000000) [runs, gd, step1, need, evu, un, opnds, opv, ev, cst, cst1, cstL, getT, getH, putT, onL, nxt, argT, cellsOf, PV.one, thn, inBlk, jmp, fldP, ldP, ldC, live, Cells.len, Cells.get, Cells.w, sug, ldv, bin, ops2, sh2, binv, Tk.agg, stC, apC, rdS, apS, mvL, zp, argsP, idx, fillP, toInts, chunks, mkC, ixS, ixA, oidx, slP, sl0, mxF, bltn, frzA, frz, frzL, frz1, pur1, Cells.pur, PV.scal, scal1, runD, rdO, PV.ids, id1, zids, ety, Eff.on, cnd, minb, and1b, ifmax, ifmin, mxv, sugI, strv, w0, w1, w2, wm1, manyL_len, List.take_succ_cons, List.take_zero, List.drop_succ_cons, List.drop_zero]
        repeat' (first | apply And.intro | intro _)
        any_goals (first | (refine hK39 _ ?_; clear hK39) | (first | omega | (simp only [IntKind.wrap_i64] at *; omega) | (simp_all; done) | (simp_all; omega)))
        refine swp_seq fun K42 hK42 => ?_
        refine swp_seq fun K43 hK43 => ?_
        refine swp_region ty_ok ?_
        try simp (maxSteps := 1000000) [runs, gd, step1, need, evu, un, opnds, opv, ev, cst, cst1, cstL, getT, getH, putT, onL, nxt, argT, cellsOf, PV.one, thn, inBlk, jmp, fldP, ldP, ldC, live, Cells.len, Cells.get, Cells.w, sug, ldv, bin, ops2, sh2, binv, Tk.agg, stC, apC, rdS, apS, mvL, zp, argsP, idx, fillP, toInts, chunks, mkC, ixS, ixA, oidx, slP, sl0, mxF, bltn, frzA, frz, frzL, frz1, pur1, Cells.pur, PV.scal, scal1, runD, rdO, PV.ids, id1, zids, ety, Eff.on, cnd, minb, and1b, ifmax, ifmin, mxv, sugI, strv, w0, w1, w2, wm1, manyL_len]
        repeat' (first | apply And.intro | intro _)
        any_goals (first | (refine hK43 _ ?_; clear hK43) | (first | omega | (simp only [IntKind.wrap_i64] at *; omega) | (simp_all; done) | (simp_all; omega)))
        refine swp_block ?_
        have hwe : w = g.sum.toNat := by omega
        subst hwe
        refine swp_loop 2 (fun m_ s_ => ∃ (k : Nat), (k ≤ g.length) ∧ s_ = ⟨[(1, .ptr 0 0 0 1), (8, .sl 1 0 g.length g.length), (14, .int .i64 2), (15, .int .i64 (k : Nat))], [(0, some ⟨.rows 4 [[.int .u8 s, .int .u8 sh, .int .i64 m, .ro (.ints .i64 g)]], true, 24⟩), (1, some ⟨.ints .i64 (manyL g g.sum.toNat), false, 3⟩)], 2⟩ ∧ m_ = g.length - k) _ ⟨[(1, .ptr 0 0 0 1), (8, .sl 1 0 g.length g.length), (14, .int .i64 2), (15, .int .i64 (0 : Nat))], [(0, some ⟨.rows 4 [[.int .u8 s, .int .u8 sh, .int .i64 m, .ro (.ints .i64 g)]], true, 24⟩), (1, some ⟨.ints .i64 (manyL g g.sum.toNat), false, 3⟩)], 2⟩ ⟨by simp [getT, PV.lo, lo1], by simp [getH, Blk.lo, Cells.lo, lo1], rfl, by omega⟩ ⟨(0), by (first | omega | (simp only [IntKind.wrap_i64] at *; omega) | (simp_all; done) | (simp_all; omega)), rfl, rfl⟩ ?_
        rintro m_ s_ ⟨k, hL44_0, rfl, rfl⟩ KL44 hL44
        have hkw : IntKind.i64.wrap ((k : Int) + 1) = (((k + 1 : Nat)) : Int) := wnext (by omega)
        have hca : k < g.length → (manyL g g.sum.toNat)[k]?.getD 0 = g[k]?.getD 0 := fun h => by rw [manyL_get _ _ _ h, cntG_all g k hp1 h]
        refine swp_seq fun K45 hK45 => ?_
        refine swp_seq fun K46 hK46 => ?_
        refine swp_region ty_ok ?_
        try simp (maxSteps := 1000000) [runs, gd, step1, need, evu, un, opnds, opv, ev, cst, cst1, cstL, getT, getH, putT, onL, nxt, argT, cellsOf, PV.one, thn, inBlk, jmp, fldP, ldP, ldC, live, Cells.len, Cells.get, Cells.w, sug, ldv, bin, ops2, sh2, binv, Tk.agg, stC, apC, rdS, apS, mvL, zp, argsP, idx, fillP, toInts, chunks, mkC, ixS, ixA, oidx, slP, sl0, mxF, bltn, frzA, frz, frzL, frz1, pur1, Cells.pur, PV.scal, scal1, runD, rdO, PV.ids, id1, zids, ety, Eff.on, cnd, minb, and1b, ifmax, ifmin, mxv, sugI, strv, w0, w1, w2, wm1, manyL_len]
        repeat' (first | apply And.intro | intro _)
        any_goals (first | (refine hK46 _ ?_; clear hK46) | (first | omega | (simp only [IntKind.wrap_i64] at *; omega) | (simp_all; done) | (simp_all; omega)))
        refine swp_if fun C47 hC47 => ?_
        try simp (maxSteps := 1000000) [runs, gd, step1, need, evu, un, opnds, opv, ev, cst, cst1, cstL, getT, getH, putT, onL, nxt, argT, cellsOf, PV.one, thn, inBlk, jmp, fldP, ldP, ldC, live, Cells.len, Cells.get, Cells.w, sug, ldv, bin, ops2, sh2, binv, Tk.agg, stC, apC, rdS, apS, mvL, zp, argsP, idx, fillP, toInts, chunks, mkC, ixS, ixA, oidx, slP, sl0, mxF, bltn, frzA, frz, frzL, frz1, pur1, Cells.pur, PV.scal, scal1, runD, rdO, PV.ids, id1, zids, ety, Eff.on, cnd, minb, and1b, ifmax, ifmin, mxv, sugI, strv, w0, w1, w2, wm1, manyL_len]
        refine hC47 _ (fun hc47 => ?_) (fun hc47 => ?_)
        · clear hC47
          try simp at hc47
          refine swp_skip ?_
          simp only [thn, inBlk]
          refine hK45 _ ?_; clear hK45
          refine swp_seq fun K48 hK48 => ?_
          refine swp_block ?_
          refine swp_seq fun K49 hK49 => ?_
          refine swp_draw ty_ok mixed (ms := [0, 0, 3, 7, 0, 16, 0, 112, 240, 511]) (by kernel_rfl) ?_
          try simp (maxSteps := 1000000) [runs, gd, step1, need, evu, un, opnds, opv, ev, cst, cst1, cstL, getT, getH, putT, onL, nxt, argT, cellsOf, PV.one, thn, inBlk, jmp, fldP, ldP, ldC, live, Cells.len, Cells.get, Cells.w, sug, ldv, bin, ops2, sh2, binv, Tk.agg, stC, apC, rdS, apS, mvL, zp, argsP, idx, fillP, toInts, chunks, mkC, ixS, ixA, oidx, slP, sl0, mxF, bltn, frzA, frz, frzL, frz1, pur1, Cells.pur, PV.scal, scal1, runD, rdO, PV.ids, id1, zids, ety, Eff.on, cnd, minb, and1b, ifmax, ifmin, mxv, sugI, strv, w0, w1, w2, wm1, manyL_len]
          repeat' (first | apply And.intro | intro _)
          any_goals (first | kernel_rfl | (refine hK49 _ ?_; clear hK49) | (first | omega | (simp only [IntKind.wrap_i64] at *; omega) | (simp_all; done) | (simp_all; omega)))
          refine swp_if fun C51 hC51 => ?_
          try simp (maxSteps := 1000000) [runs, gd, step1, need, evu, un, opnds, opv, ev, cst, cst1, cstL, getT, getH, putT, onL, nxt, argT, cellsOf, PV.one, thn, inBlk, jmp, fldP, ldP, ldC, live, Cells.len, Cells.get, Cells.w, sug, ldv, bin, ops2, sh2, binv, Tk.agg, stC, apC, rdS, apS, mvL, zp, argsP, idx, fillP, toInts, chunks, mkC, ixS, ixA, oidx, slP, sl0, mxF, bltn, frzA, frz, frzL, frz1, pur1, Cells.pur, PV.scal, scal1, runD, rdO, PV.ids, id1, zids, ety, Eff.on, cnd, minb, and1b, ifmax, ifmin, mxv, sugI, strv, w0, w1, w2, wm1, manyL_len]
          refine hC51 _ (fun hc51 => ?_) (fun hc51 => ?_)
          · clear hC51
            try simp at hc51
            refine swp_seq fun K52 hK52 => ?_
            refine swp_region ty_ok ?_
            try simp (maxSteps := 1000000) [runs, gd, step1, need, evu, un, opnds, opv, ev, cst, cst1, cstL, getT, getH, putT, onL, nxt, argT, cellsOf, PV.one, thn, inBlk, jmp, fldP, ldP, ldC, live, Cells.len, Cells.get, Cells.w, sug, ldv, bin, ops2, sh2, binv, Tk.agg, stC, apC, rdS, apS, mvL, zp, argsP, idx, fillP, toInts, chunks, mkC, ixS, ixA, oidx, slP, sl0, mxF, bltn, frzA, frz, frzL, frz1, pur1, Cells.pur, PV.scal, scal1, runD, rdO, PV.ids, id1, zids, ety, Eff.on, cnd, minb, and1b, ifmax, ifmin, mxv, sugI, strv, w0, w1, w2, wm1, manyL_len]
            repeat' (first | apply And.intro | intro _)
            any_goals (first | (refine hK52 _ ?_; clear hK52) | (first | omega | (simp only [IntKind.wrap_i64] at *; omega) | (simp_all; done) | (simp_all; omega)))
            refine swp_ret ?_
            simp [runs, gd, step1, need, evu, un, opnds, opv, ev, cst, cst1, cstL, getT, getH, putT, onL, nxt, argT, cellsOf, PV.one, thn, inBlk, jmp, fldP, ldP, ldC, live, Cells.len, Cells.get, Cells.w, sug, ldv, bin, ops2, sh2, binv, Tk.agg, stC, apC, rdS, apS, mvL, zp, argsP, idx, fillP, toInts, chunks, mkC, ixS, ixA, oidx, slP, sl0, mxF, bltn, frzA, frz, frzL, frz1, pur1, Cells.pur, PV.scal, scal1, runD, rdO, PV.ids, id1, zids, ety, Eff.on, cnd, minb, and1b, ifmax, ifmin, mxv, sugI, strv, w0, w1, w2, wm1, fnPost, Try.results4, resP, tupOf]
            exact absurd (hca (by omega)) hc51
          · clear hC51
            try simp at hc51
            refine swp_skip ?_
            simp only [thn, inBlk]
            refine hK48 _ ?_; clear hK48
            refine swp_region ty_ok ?_
            try simp (maxSteps := 1000000) [runs, gd, step1, need, evu, un, opnds, opv, ev, cst, cst1, cstL, getT, getH, putT, onL, nxt, argT, cellsOf, PV.one, thn, inBlk, jmp, fldP, ldP, ldC, live, Cells.len, Cells.get, Cells.w, sug, ldv, bin, ops2, sh2, binv, Tk.agg, stC, apC, rdS, apS, mvL, zp, argsP, idx, fillP, toInts, chunks, mkC, ixS, ixA, oidx, slP, sl0, mxF, bltn, frzA, frz, frzL, frz1, pur1, Cells.pur, PV.scal, scal1, runD, rdO, PV.ids, id1, zids, ety, Eff.on, cnd, minb, and1b, ifmax, ifmin, mxv, sugI, strv, w0, w1, w2, wm1, manyL_len]
            repeat' apply And.intro
            any_goals (try omega)
            refine hL44 _ ⟨[(1, .ptr 0 0 0 1), (8, .sl 1 0 g.length g.length), (14, .int .i64 2), (15, .int .i64 ((k + 1) : Nat))], [(0, some ⟨.rows 4 [[.int .u8 s, .int .u8 sh, .int .i64 m, .ro (.ints .i64 g)]], true, 24⟩), (1, some ⟨.ints .i64 (manyL g g.sum.toNat), false, 3⟩)], 2⟩ _ ?_ ⟨(k + 1), by (first | omega | (simp only [IntKind.wrap_i64] at *; omega) | (simp_all; done) | (simp_all; omega)), rfl, rfl⟩ ⟨by simp [getT, PV.lo, lo1, hkw], by simp [getH, Blk.lo, Cells.lo, lo1], rfl, by omega⟩
            omega
        · clear hC47
          try simp at hc47
          refine swp_exit ?_
          simp [thn, inBlk]
          refine hK42 _ ?_; clear hK42
          refine swp_seq fun K53 hK53 => ?_
          refine swp_region ty_ok ?_
          try simp (maxSteps := 1000000) [runs, gd, step1, need, evu, un, opnds, opv, ev, cst, cst1, cstL, getT, getH, putT, onL, nxt, argT, cellsOf, PV.one, thn, inBlk, jmp, fldP, ldP, ldC, live, Cells.len, Cells.get, Cells.w, sug, ldv, bin, ops2, sh2, binv, Tk.agg, stC, apC, rdS, apS, mvL, zp, argsP, idx, fillP, toInts, chunks, mkC, ixS, ixA, oidx, slP, sl0, mxF, bltn, frzA, frz, frzL, frz1, pur1, Cells.pur, PV.scal, scal1, runD, rdO, PV.ids, id1, zids, ety, Eff.on, cnd, minb, and1b, ifmax, ifmin, mxv, sugI, strv, w0, w1, w2, wm1, manyL_len]
          repeat' (first | apply And.intro | intro _)
          any_goals (first | (refine hK53 _ ?_; clear hK53) | (first | omega | (simp only [IntKind.wrap_i64] at *; omega) | (simp_all; done) | (simp_all; omega)))
          refine swp_ret ?_
          simp [runs, gd, step1, need, evu, un, opnds, opv, ev, cst, cst1, cstL, getT, getH, putT, onL, nxt, argT, cellsOf, PV.one, thn, inBlk, jmp, fldP, ldP, ldC, live, Cells.len, Cells.get, Cells.w, sug, ldv, bin, ops2, sh2, binv, Tk.agg, stC, apC, rdS, apS, mvL, zp, argsP, idx, fillP, toInts, chunks, mkC, ixS, ixA, oidx, slP, sl0, mxF, bltn, frzA, frz, frzL, frz1, pur1, Cells.pur, PV.scal, scal1, runD, rdO, PV.ids, id1, zids, ety, Eff.on, cnd, minb, and1b, ifmax, ifmin, mxv, sugI, strv, w0, w1, w2, wm1, fnPost, Try.results4, resP, tupOf]

end Go.Proofs.Ytkhjiabenifplaa
