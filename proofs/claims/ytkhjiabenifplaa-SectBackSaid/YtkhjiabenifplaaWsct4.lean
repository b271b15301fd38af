import Derived.Test.YtkhjiabenifplaaWf
import Derived.Test.YtkhjiabenifplaaTyi
import Derived.Test.YtkhjiabenifplaaWband
import Derived.Test.YtkhjiabenifplaaWinfo
import Derived.Test.YtkhjiabenifplaaWbits
import Derived.Test.YtkhjiabenifplaaWrd
import Derived.Test.YtkhjiabenifplaaWrdq
import Derived.Test.YtkhjiabenifplaaWsct
import Derived.Test.YtkhjiabenifplaaWsct2
import Derived.Test.YtkhjiabenifplaaWsct3
import Derived.Test.YtkhjiabenifplaaWbits2
namespace Go.Proofs.Ytkhjiabenifplaa
set_option linter.unusedVariables false
set_option linter.unusedSimpArgs false
set_option maxRecDepth 10000
open Go Go.Pv

open Go.RowKit
def grt19 (l : List (List Sc)) : Bool := (l.take 100).any (fun w => decide (200 < w.length)) || decide (100 < l.length)
theorem grt_no {l : List (List Sc)} (h : grt19 l = false) : l.length ≤ 100 ∧ ∀ w ∈ l, w.length ≤ 200 := by
  unfold grt19 at h
  rw [Bool.or_eq_false_iff, decide_eq_false_iff_not, List.any_eq_false] at h
  refine ⟨by omega, fun w hw => ?_⟩
  have := h.1 w (by rw [List.take_of_length_le (by omega)]; exact hw)
  simpa using this
theorem grt_y {l : List (List Sc)} {k : Nat} (hk : k < l.length) (h1 : k < 100) (h : 200 < (l[k]?.getD []).length) : grt19 l = true := by
  unfold grt19
  rw [Bool.or_eq_true]
  refine .inl (List.any_eq_true.2 ⟨l[k]?.getD [], ?_, by simpa using h⟩)
  rw [List.getElem?_eq_getElem hk, Option.getD_some]
  exact List.mem_of_getElem? (i := k) (by rw [List.getElem?_take, if_pos h1, List.getElem?_eq_getElem hk])
theorem grt_e {l : List (List Sc)} {k : Nat} (hk : l.length ≤ k ∨ 100 ≤ k) (h : ∀ j < k, (l[j]?.getD []).length ≤ 200) : grt19 l = decide (100 < l.length) := by
  unfold grt19
  have : (l.take 100).any (fun w => decide (200 < w.length)) = false := by
    rw [List.any_eq_false]
    intro w hw
    obtain ⟨j, hj, rfl⟩ := List.getElem_of_mem hw
    rw [List.length_take] at hj
    have h2 := h j (by omega)
    rw [List.getElem?_eq_getElem (by omega), Option.getD_some] at h2
    rw [List.getElem_take]
    simp
    omega
  rw [this, Bool.false_or]
set_option maxHeartbeats 2000000 in
theorem rsameS_ok (xs ys : List (List Sc)) (hx : xs.length ≤ 1000000) (hw : ∀ w ∈ xs, w.length ≤ 1000000) : PCall Try.prog 38 [.ro (.rows 1 (xs.map fun w => [PV.ro (.rows 2 (w.map Sc.row))])), .ro (.rows 1 (ys.map fun w => [PV.ro (.rows 2 (w.map Sc.row))]))] (.bool (decide (xs = ys))) := by
  refine pcall_body ty_ok Try.func38 rfl (by rfl) (by simp) ?_
  rw [Try.ntmps38]
  refine swp_seq fun K1 hK1 => ?_
  refine swp_region ty_ok ?_
  try simp (maxSteps := 1000000) [runs, gd, step1, need, evu, un, opnds, opv, ev, cst, cst1, cstL, getT, getH, putT, onL, nxt, argT, cellsOf, PV.one, thn, inBlk, jmp, fldP, ldP, ldC, live, Cells.len, Cells.get, Cells.w, sug, ldv, bin, eqF, eq1, ops2, sh2, binv, Tk.agg, stC, apC, rdS, apS, cpC, cpS, mvL, zp, argsP, idx, fillP, toInts, chunks, mkC, ixS, ixA, oidx, slP, sl0, slA, optL, List.append, mxF, bltn, frzA, frz, frzL, frz1, pur1, Cells.pur, PV.scal, scal1, runD, rdO, PV.ids, id1, zids, ety, Eff.on, cnd, minb, and1b, ifmax, ifmin, mxv, sugI, strv, w0, w1, w2, wm1]
  repeat' (first | apply And.intro | intro _)
  any_goals (first | (refine hK1 _ ?_; clear hK1) | (first | omega | (simp only [IntKind.wrap_i64] at *; omega) | (simp_all; done) | (simp_all; omega)))
  refine swp_seq fun K2 hK2 => ?_
  refine swp_seq fun K3 hK3 => ?_
  refine swp_region ty_ok ?_
  try simp (maxSteps := 1000000) [runs, gd, step1, need, evu, un, opnds, opv, ev, cst, cst1, cstL, getT, getH, putT, onL, nxt, argT, cellsOf, PV.one, thn, inBlk, jmp, fldP, ldP, ldC, live, Cells.len, Cells.get, Cells.w, sug, ldv, bin, eqF, eq1, ops2, sh2, binv, Tk.agg, stC, apC, rdS, apS, cpC, cpS, mvL, zp, argsP, idx, fillP, toInts, chunks, mkC, ixS, ixA, oidx, slP, sl0, slA, optL, List.append, mxF, bltn, frzA, frz, frzL, frz1, pur1, Cells.pur, PV.scal, scal1, runD, rdO, PV.ids, id1, zids, ety, Eff.on, cnd, minb, and1b, ifmax, ifmin, mxv, sugI, strv, w0, w1, w2, wm1]
  repeat' (first | apply And.intro | intro _)
  any_goals (first | (refine hK3 _ ?_; clear hK3) | (first | omega | (simp only [IntKind.wrap_i64] at *; omega) | (simp_all; done) | (simp_all; omega)))
  refine swp_if fun C4 hC4 => ?_
  try simp (maxSteps := 1000000) [runs, gd, step1, need, evu, un, opnds, opv, ev, cst, cst1, cstL, getT, getH, putT, onL, nxt, argT, cellsOf, PV.one, thn, inBlk, jmp, fldP, ldP, ldC, live, Cells.len, Cells.get, Cells.w, sug, ldv, bin, eqF, eq1, ops2, sh2, binv, Tk.agg, stC, apC, rdS, apS, cpC, cpS, mvL, zp, argsP, idx, fillP, toInts, chunks, mkC, ixS, ixA, oidx, slP, sl0, slA, optL, List.append, mxF, bltn, frzA, frz, frzL, frz1, pur1, Cells.pur, PV.scal, scal1, runD, rdO, PV.ids, id1, zids, ety, Eff.on, cnd, minb, and1b, ifmax, ifmin, mxv, sugI, strv, w0, w1, w2, wm1]
  refine hC4 _ (fun hc4 => ?_) (fun hc4 => ?_)
  · clear hC4
    try simp at hc4
    refine swp_seq fun K5 hK5 => ?_
    refine swp_region ty_ok ?_
    try simp (maxSteps := 1000000) [runs, gd, step1, need, evu, un, opnds, opv, ev, cst, cst1, cstL, getT, getH, putT, onL, nxt, argT, cellsOf, PV.one, thn, inBlk, jmp, fldP, ldP, ldC, live, Cells.len, Cells.get, Cells.w, sug, ldv, bin, eqF, eq1, ops2, sh2, binv, Tk.agg, stC, apC, rdS, apS, cpC, cpS, mvL, zp, argsP, idx, fillP, toInts, chunks, mkC, ixS, ixA, oidx, slP, sl0, slA, optL, List.append, mxF, bltn, frzA, frz, frzL, frz1, pur1, Cells.pur, PV.scal, scal1, runD, rdO, PV.ids, id1, zids, ety, Eff.on, cnd, minb, and1b, ifmax, ifmin, mxv, sugI, strv, w0, w1, w2, wm1]
    repeat' (first | apply And.intro | intro _)
    any_goals (first | (refine hK5 _ ?_; clear hK5) | (first | omega | (simp only [IntKind.wrap_i64] at *; omega) | (simp_all; done) | (simp_all; omega)))
    refine swp_ret ?_
    simp [runs, gd, step1, need, evu, un, opnds, opv, ev, cst, cst1, cstL, getT, getH, putT, onL, nxt, argT, cellsOf, PV.one, thn, inBlk, jmp, fldP, ldP, ldC, live, Cells.len, Cells.get, Cells.w, sug, ldv, bin, eqF, eq1, ops2, sh2, binv, Tk.agg, stC, apC, rdS, apS, cpC, cpS, mvL, zp, argsP, idx, fillP, toInts, chunks, mkC, ixS, ixA, oidx, slP, sl0, slA, optL, List.append, mxF, bltn, frzA, frz, frzL, frz1, pur1, Cells.pur, PV.scal, scal1, runD, rdO, PV.ids, id1, zids, ety, Eff.on, cnd, minb, and1b, ifmax, ifmin, mxv, sugI, strv, w0, w1, w2, wm1, fnPost, Try.results38, resP, tupOf]
    exact eqs_len (by omega)
  · clear hC4
    try simp at hc4
    refine swp_skip ?_
    try simp only [thn, inBlk]
    refine hK2 _ ?_; clear hK2
    refine swp_seq fun K6 hK6 => ?_
    refine swp_seq fun K7 hK7 => ?_
    refine swp_region ty_ok ?_
    try simp (maxSteps := 1000000) [runs, gd, step1, need, evu, un, opnds, opv, ev, cst, cst1, cstL, getT, getH, putT, onL, nxt, argT, cellsOf, PV.one, thn, inBlk, jmp, fldP, ldP, ldC, live, Cells.len, Cells.get, Cells.w, sug, ldv, bin, eqF, eq1, ops2, sh2, binv, Tk.agg, stC, apC, rdS, apS, cpC, cpS, mvL, zp, argsP, idx, fillP, toInts, chunks, mkC, ixS, ixA, oidx, slP, sl0, slA, optL, List.append, mxF, bltn, frzA, frz, frzL, frz1, pur1, Cells.pur, PV.scal, scal1, runD, rdO, PV.ids, id1, zids, ety, Eff.on, cnd, minb, and1b, ifmax, ifmin, mxv, sugI, strv, w0, w1, w2, wm1]
    repeat' (first | apply And.intro | intro _)
    any_goals (first | (refine hK7 _ ?_; clear hK7) | (first | omega | (simp only [IntKind.wrap_i64] at *; omega) | (simp_all; done) | (simp_all; omega)))
    refine swp_block ?_
    refine swp_loop 0 (fun m_ s_ => ∃ (k : Nat), (k ≤ xs.length) ∧ (xs.length = ys.length) ∧ (∀ j < k, xs[j]?.getD [] = ys[j]?.getD []) ∧ s_ = ⟨[(0, .ro (.rows 1 (xs.map fun w => [PV.ro (.rows 2 (w.map Sc.row))]))), (1, .ro (.rows 1 (ys.map fun w => [PV.ro (.rows 2 (w.map Sc.row))]))), (5, .int .i64 (k : Nat))], [], 0⟩ ∧ m_ = xs.length - k) _ ⟨[(0, .ro (.rows 1 (xs.map fun w => [PV.ro (.rows 2 (w.map Sc.row))]))), (1, .ro (.rows 1 (ys.map fun w => [PV.ro (.rows 2 (w.map Sc.row))]))), (5, .int .i64 (0 : Nat))], [], 0⟩ ⟨by simp [getT, PV.lo, lo1], by simp [getH, Blk.lo, Cells.lo, lo1], rfl, by omega⟩ ⟨(0), by omega, by omega, by simp, rfl, rfl⟩ ?_
    rintro m_ s_ ⟨k, hL8_0, hL8_1, hL8_2, rfl, rfl⟩ KL8 hL8
    have hkw : IntKind.i64.wrap ((k : Int) + 1) = (((k + 1 : Nat)) : Int) := wnext (by omega)
    refine swp_seq fun K9 hK9 => ?_
    refine swp_seq fun K10 hK10 => ?_
    refine swp_region ty_ok ?_
    try simp (maxSteps := 1000000) [runs, gd, step1, need, evu, un, opnds, opv, ev, cst, cst1, cstL, getT, getH, putT, onL, nxt, argT, cellsOf, PV.one, thn, inBlk, jmp, fldP, ldP, ldC, live, Cells.len, Cells.get, Cells.w, sug, ldv, bin, eqF, eq1, ops2, sh2, binv, Tk.agg, stC, apC, rdS, apS, cpC, cpS, mvL, zp, argsP, idx, fillP, toInts, chunks, mkC, ixS, ixA, oidx, slP, sl0, slA, optL, List.append, mxF, bltn, frzA, frz, frzL, frz1, pur1, Cells.pur, PV.scal, scal1, runD, rdO, PV.ids, id1, zids, ety, Eff.on, cnd, minb, and1b, ifmax, ifmin, mxv, sugI, strv, w0, w1, w2, wm1]
    repeat' (first | apply And.intro | intro _)
    any_goals (first | (refine hK10 _ ?_; clear hK10) | (first | omega | (simp only [IntKind.wrap_i64] at *; omega) | (simp_all; done) | (simp_all; omega)))
    refine swp_if fun C11 hC11 => ?_
    try simp (maxSteps := 1000000) [runs, gd, step1, need, evu, un, opnds, opv, ev, cst, cst1, cstL, getT, getH, putT, onL, nxt, argT, cellsOf, PV.one, thn, inBlk, jmp, fldP, ldP, ldC, live, Cells.len, Cells.get, Cells.w, sug, ldv, bin, eqF, eq1, ops2, sh2, binv, Tk.agg, stC, apC, rdS, apS, cpC, cpS, mvL, zp, argsP, idx, fillP, toInts, chunks, mkC, ixS, ixA, oidx, slP, sl0, slA, optL, List.append, mxF, bltn, frzA, frz, frzL, frz1, pur1, Cells.pur, PV.scal, scal1, runD, rdO, PV.ids, id1, zids, ety, Eff.on, cnd, minb, and1b, ifmax, ifmin, mxv, sugI, strv, w0, w1, w2, wm1]
    refine hC11 _ (fun hc11 => ?_) (fun hc11 => ?_)
    · clear hC11
      try simp at hc11
      refine swp_skip ?_
      try simp only [thn, inBlk]
      refine hK9 _ ?_; clear hK9
      refine swp_seq fun K12 hK12 => ?_
      refine swp_block ?_
      refine swp_seq fun K13 hK13 => ?_
      refine swp_seq fun K14 hK14 => ?_
      have hra := s_at (l := xs) (k := k) (by omega)
      have hrb := s_at (l := ys) (k := k) (by omega)
      have hwk : (xs[k]?.getD []).length ≤ 1000000 := hw _ (mem_at (w := xs) (j := k) (by omega))
      refine swp_draw ty_ok mixed (ms := [0, 0, 3, 7, 15, 0, 0, 96, 224, 480, 1023]) (by kernel_rfl) ?_
      try simp (maxSteps := 1000000) [runs, gd, step1, need, evu, un, opnds, opv, ev, cst, cst1, cstL, getT, getH, putT, onL, nxt, argT, cellsOf, PV.one, thn, inBlk, jmp, fldP, ldP, ldC, live, Cells.len, Cells.get, Cells.w, sug, ldv, bin, eqF, eq1, ops2, sh2, binv, Tk.agg, stC, apC, rdS, apS, cpC, cpS, mvL, zp, argsP, idx, fillP, toInts, chunks, mkC, ixS, ixA, oidx, slP, sl0, slA, optL, List.append, mxF, bltn, frzA, frz, frzL, frz1, pur1, Cells.pur, PV.scal, scal1, runD, rdO, PV.ids, id1, zids, ety, Eff.on, cnd, minb, and1b, ifmax, ifmin, mxv, sugI, strv, w0, w1, w2, wm1, hra, hrb]
      repeat' (first | apply And.intro | intro _)
      any_goals (first | kernel_rfl | (refine hK14 _ ?_; clear hK14) | (first | omega | (simp only [IntKind.wrap_i64] at *; omega) | (simp_all; done) | (simp_all; omega)))
      refine swp_if fun C16 hC16 => ?_
      try simp (maxSteps := 1000000) [runs, gd, step1, need, evu, un, opnds, opv, ev, cst, cst1, cstL, getT, getH, putT, onL, nxt, argT, cellsOf, PV.one, thn, inBlk, jmp, fldP, ldP, ldC, live, Cells.len, Cells.get, Cells.w, sug, ldv, bin, eqF, eq1, ops2, sh2, binv, Tk.agg, stC, apC, rdS, apS, cpC, cpS, mvL, zp, argsP, idx, fillP, toInts, chunks, mkC, ixS, ixA, oidx, slP, sl0, slA, optL, List.append, mxF, bltn, frzA, frz, frzL, frz1, pur1, Cells.pur, PV.scal, scal1, runD, rdO, PV.ids, id1, zids, ety, Eff.on, cnd, minb, and1b, ifmax, ifmin, mxv, sugI, strv, w0, w1, w2, wm1, hra, hrb]
      refine hC16 _ (fun hc16 => ?_) (fun hc16 => ?_)
      · clear hC16
        try simp at hc16
        refine swp_seq fun K17 hK17 => ?_
        refine swp_region ty_ok ?_
        try simp (maxSteps := 1000000) [runs, gd, step1, need, evu, un, opnds, opv, ev, cst, cst1, cstL, getT, getH, putT, onL, nxt, argT, cellsOf, PV.one, thn, inBlk, jmp, fldP, ldP, ldC, live, Cells.len, Cells.get, Cells.w, sug, ldv, bin, eqF, eq1, ops2, sh2, binv, Tk.agg, stC, apC, rdS, apS, cpC, cpS, mvL, zp, argsP, idx, fillP, toInts, chunks, mkC, ixS, ixA, oidx, slP, sl0, slA, optL, List.append, mxF, bltn, frzA, frz, frzL, frz1, pur1, Cells.pur, PV.scal, scal1, runD, rdO, PV.ids, id1, zids, ety, Eff.on, cnd, minb, and1b, ifmax, ifmin, mxv, sugI, strv, w0, w1, w2, wm1]
        repeat' (first | apply And.intro | intro _)
        any_goals (first | (refine hK17 _ ?_; clear hK17) | (first | omega | (simp only [IntKind.wrap_i64] at *; omega) | (simp_all; done) | (simp_all; omega)))
        refine swp_ret ?_
        simp [runs, gd, step1, need, evu, un, opnds, opv, ev, cst, cst1, cstL, getT, getH, putT, onL, nxt, argT, cellsOf, PV.one, thn, inBlk, jmp, fldP, ldP, ldC, live, Cells.len, Cells.get, Cells.w, sug, ldv, bin, eqF, eq1, ops2, sh2, binv, Tk.agg, stC, apC, rdS, apS, cpC, cpS, mvL, zp, argsP, idx, fillP, toInts, chunks, mkC, ixS, ixA, oidx, slP, sl0, slA, optL, List.append, mxF, bltn, frzA, frz, frzL, frz1, pur1, Cells.pur, PV.scal, scal1, runD, rdO, PV.ids, id1, zids, ety, Eff.on, cnd, minb, and1b, ifmax, ifmin, mxv, sugI, strv, w0, w1, w2, wm1, fnPost, Try.results38, resP, tupOf]
        exact eqs_no [] (k := k) (eqs_len (by omega))
      · clear hC16
        try simp at hc16
        refine swp_skip ?_
        try simp only [thn, inBlk]
        refine hK13 _ ?_; clear hK13
        refine swp_seq fun K18 hK18 => ?_
        refine swp_region ty_ok ?_
        try simp (maxSteps := 1000000) [runs, gd, step1, need, evu, un, opnds, opv, ev, cst, cst1, cstL, getT, getH, putT, onL, nxt, argT, cellsOf, PV.one, thn, inBlk, jmp, fldP, ldP, ldC, live, Cells.len, Cells.get, Cells.w, sug, ldv, bin, eqF, eq1, ops2, sh2, binv, Tk.agg, stC, apC, rdS, apS, cpC, cpS, mvL, zp, argsP, idx, fillP, toInts, chunks, mkC, ixS, ixA, oidx, slP, sl0, slA, optL, List.append, mxF, bltn, frzA, frz, frzL, frz1, pur1, Cells.pur, PV.scal, scal1, runD, rdO, PV.ids, id1, zids, ety, Eff.on, cnd, minb, and1b, ifmax, ifmin, mxv, sugI, strv, w0, w1, w2, wm1]
        repeat' (first | apply And.intro | intro _)
        any_goals (first | (refine hK18 _ ?_; clear hK18) | (first | omega | (simp only [IntKind.wrap_i64] at *; omega) | (simp_all; done) | (simp_all; omega)))
        refine swp_block ?_
        refine swp_loop 0 (fun m_ s_ => ∃ (i : Nat), (i ≤ (xs[k]?.getD []).length) ∧ ((xs[k]?.getD []).length = (ys[k]?.getD []).length) ∧ (∀ j < i, (xs[k]?.getD [])[j]?.getD default = (ys[k]?.getD [])[j]?.getD default) ∧ s_ = ⟨[(0, .ro (.rows 1 (xs.map fun w => [PV.ro (.rows 2 (w.map Sc.row))]))), (1, .ro (.rows 1 (ys.map fun w => [PV.ro (.rows 2 (w.map Sc.row))]))), (5, .int .i64 (k : Nat)), (6, .int .i64 (i : Nat))], [], 0⟩ ∧ m_ = (xs[k]?.getD []).length - i) _ ⟨[(0, .ro (.rows 1 (xs.map fun w => [PV.ro (.rows 2 (w.map Sc.row))]))), (1, .ro (.rows 1 (ys.map fun w => [PV.ro (.rows 2 (w.map Sc.row))]))), (5, .int .i64 (k : Nat)), (6, .int .i64 (0 : Nat))], [], 0⟩ ⟨by simp [getT, PV.lo, lo1], by simp [getH, Blk.lo, Cells.lo, lo1], rfl, by omega⟩ ⟨(0), by omega, by omega, by simp, rfl, rfl⟩ ?_
        rintro m_ s_ ⟨i, hL19_0, hL19_1, hL19_2, rfl, rfl⟩ KL19 hL19
        have hiw : IntKind.i64.wrap ((i : Int) + 1) = (((i + 1 : Nat)) : Int) := wnext (by omega)
        refine swp_seq fun K20 hK20 => ?_
        refine swp_seq fun K21 hK21 => ?_
        refine swp_region ty_ok ?_
        try simp (maxSteps := 1000000) [runs, gd, step1, need, evu, un, opnds, opv, ev, cst, cst1, cstL, getT, getH, putT, onL, nxt, argT, cellsOf, PV.one, thn, inBlk, jmp, fldP, ldP, ldC, live, Cells.len, Cells.get, Cells.w, sug, ldv, bin, eqF, eq1, ops2, sh2, binv, Tk.agg, stC, apC, rdS, apS, cpC, cpS, mvL, zp, argsP, idx, fillP, toInts, chunks, mkC, ixS, ixA, oidx, slP, sl0, slA, optL, List.append, mxF, bltn, frzA, frz, frzL, frz1, pur1, Cells.pur, PV.scal, scal1, runD, rdO, PV.ids, id1, zids, ety, Eff.on, cnd, minb, and1b, ifmax, ifmin, mxv, sugI, strv, w0, w1, w2, wm1, hra, hrb]
        repeat' (first | apply And.intro | intro _)
        any_goals (first | (refine hK21 _ ?_; clear hK21) | (first | omega | (simp only [IntKind.wrap_i64] at *; omega) | (simp_all; done) | (simp_all; omega)))
        refine swp_if fun C22 hC22 => ?_
        try simp (maxSteps := 1000000) [runs, gd, step1, need, evu, un, opnds, opv, ev, cst, cst1, cstL, getT, getH, putT, onL, nxt, argT, cellsOf, PV.one, thn, inBlk, jmp, fldP, ldP, ldC, live, Cells.len, Cells.get, Cells.w, sug, ldv, bin, eqF, eq1, ops2, sh2, binv, Tk.agg, stC, apC, rdS, apS, cpC, cpS, mvL, zp, argsP, idx, fillP, toInts, chunks, mkC, ixS, ixA, oidx, slP, sl0, slA, optL, List.append, mxF, bltn, frzA, frz, frzL, frz1, pur1, Cells.pur, PV.scal, scal1, runD, rdO, PV.ids, id1, zids, ety, Eff.on, cnd, minb, and1b, ifmax, ifmin, mxv, sugI, strv, w0, w1, w2, wm1, hra, hrb]
        refine hC22 _ (fun hc22 => ?_) (fun hc22 => ?_)
        · clear hC22
          try simp at hc22
          refine swp_skip ?_
          try simp only [thn, inBlk]
          refine hK20 _ ?_; clear hK20
          refine swp_seq fun K23 hK23 => ?_
          refine swp_block ?_
          refine swp_seq fun K24 hK24 => ?_
          have hrc := sc_at (ws := (xs[k]?.getD [])) (k := i) (by omega)
          have hrd := sc_at (ws := (ys[k]?.getD [])) (k := i) (by omega)
          refine swp_draw ty_ok mixed (ms := [0, 0, 3, 7, 0, 31, 63, 0, 0, 384, 896, 0, 3968, 8064, 16383]) (by kernel_rfl) ?_
          refine runD_cut 7 fun R25 hR25 => ?_
          try simp (maxSteps := 1000000) [runs, gd, step1, need, evu, un, opnds, opv, ev, cst, cst1, cstL, getT, getH, putT, onL, nxt, argT, cellsOf, PV.one, thn, inBlk, jmp, fldP, ldP, ldC, live, Cells.len, Cells.get, Cells.w, sug, ldv, bin, eqF, eq1, ops2, sh2, binv, Tk.agg, stC, apC, rdS, apS, cpC, cpS, mvL, zp, argsP, idx, fillP, toInts, chunks, mkC, ixS, ixA, oidx, slP, sl0, slA, optL, List.append, mxF, bltn, frzA, frz, frzL, frz1, pur1, Cells.pur, PV.scal, scal1, runD, rdO, PV.ids, id1, zids, ety, Eff.on, cnd, minb, and1b, ifmax, ifmin, mxv, sugI, strv, w0, w1, w2, wm1, hra, hrb, hrc, hrd, List.take_succ_cons, List.take_zero, List.drop_succ_cons, List.drop_zero]
          repeat' (first | apply And.intro | intro _)
          any_goals (first | (refine hR25 _ _ _ _ ?_; clear hR25) | (first | omega | (simp only [IntKind.wrap_i64] at *; omega) | (simp_all; done) | (simp_all; omega)))
          try simp (maxSteps := 1000000) [runs, gd, step1, need, evu, un, opnds, opv, ev, cst, cst1, cstL, getT, getH, putT, onL, nxt, argT, cellsOf, PV.one, thn, inBlk, jmp, fldP, ldP, ldC, live, Cells.len, Cells.get, Cells.w, sug, ldv, bin, eqF, eq1, ops2, sh2, binv, Tk.agg, stC, apC, rdS, apS, cpC, cpS, mvL, zp, argsP, idx, fillP, toInts, chunks, mkC, ixS, ixA, oidx, slP, sl0, slA, optL, List.append, mxF, bltn, frzA, frz, frzL, frz1, pur1, Cells.pur, PV.scal, scal1, runD, rdO, PV.ids, id1, zids, ety, Eff.on, cnd, minb, and1b, ifmax, ifmin, mxv, sugI, strv, w0, w1, w2, wm1, hra, hrb, hrc, hrd, List.take_succ_cons, List.take_zero, List.drop_succ_cons, List.drop_zero]
          repeat' (first | apply And.intro | intro _)
          any_goals (first | kernel_rfl | (refine hK24 _ ?_; clear hK24) | (first | omega | (simp only [IntKind.wrap_i64] at *; omega) | (simp_all; done) | (simp_all; omega)))
          refine swp_if fun C27 hC27 => ?_
          try simp (maxSteps := 1000000) [runs, gd, step1, need, evu, un, opnds, opv, ev, cst, cst1, cstL, getT, getH, putT, onL, nxt, argT, cellsOf, PV.one, thn, inBlk, jmp, fldP, ldP, ldC, live, Cells.len, Cells.get, Cells.w, sug, ldv, bin, eqF, eq1, ops2, sh2, binv, Tk.agg, stC, apC, rdS, apS, cpC, cpS, mvL, zp, argsP, idx, fillP, toInts, chunks, mkC, ixS, ixA, oidx, slP, sl0, slA, optL, List.append, mxF, bltn, frzA, frz, frzL, frz1, pur1, Cells.pur, PV.scal, scal1, runD, rdO, PV.ids, id1, zids, ety, Eff.on, cnd, minb, and1b, ifmax, ifmin, mxv, sugI, strv, w0, w1, w2, wm1, hra, hrb, hrc, hrd]
          refine hC27 _ (fun hc27 => ?_) (fun hc27 => ?_)
          · clear hC27
            try simp at hc27
            refine swp_seq fun K28 hK28 => ?_
            refine swp_region ty_ok ?_
            try simp (maxSteps := 1000000) [runs, gd, step1, need, evu, un, opnds, opv, ev, cst, cst1, cstL, getT, getH, putT, onL, nxt, argT, cellsOf, PV.one, thn, inBlk, jmp, fldP, ldP, ldC, live, Cells.len, Cells.get, Cells.w, sug, ldv, bin, eqF, eq1, ops2, sh2, binv, Tk.agg, stC, apC, rdS, apS, cpC, cpS, mvL, zp, argsP, idx, fillP, toInts, chunks, mkC, ixS, ixA, oidx, slP, sl0, slA, optL, List.append, mxF, bltn, frzA, frz, frzL, frz1, pur1, Cells.pur, PV.scal, scal1, runD, rdO, PV.ids, id1, zids, ety, Eff.on, cnd, minb, and1b, ifmax, ifmin, mxv, sugI, strv, w0, w1, w2, wm1]
            repeat' (first | apply And.intro | intro _)
            any_goals (first | (refine hK28 _ ?_; clear hK28) | (first | omega | (simp only [IntKind.wrap_i64] at *; omega) | (simp_all; done) | (simp_all; omega)))
            refine swp_ret ?_
            simp [runs, gd, step1, need, evu, un, opnds, opv, ev, cst, cst1, cstL, getT, getH, putT, onL, nxt, argT, cellsOf, PV.one, thn, inBlk, jmp, fldP, ldP, ldC, live, Cells.len, Cells.get, Cells.w, sug, ldv, bin, eqF, eq1, ops2, sh2, binv, Tk.agg, stC, apC, rdS, apS, cpC, cpS, mvL, zp, argsP, idx, fillP, toInts, chunks, mkC, ixS, ixA, oidx, slP, sl0, slA, optL, List.append, mxF, bltn, frzA, frz, frzL, frz1, pur1, Cells.pur, PV.scal, scal1, runD, rdO, PV.ids, id1, zids, ety, Eff.on, cnd, minb, and1b, ifmax, ifmin, mxv, sugI, strv, w0, w1, w2, wm1, fnPost, Try.results38, resP, tupOf]
            exact eqs_no [] (k := k) (eqs_no default (k := i) (ne_sc (by have h := hc27; intro hh; simp_all)))
          · clear hC27
            try simp at hc27
            refine swp_skip ?_
            try simp only [thn, inBlk]
            refine hK23 _ ?_; clear hK23
            refine swp_region ty_ok ?_
            try simp (maxSteps := 1000000) [runs, gd, step1, need, evu, un, opnds, opv, ev, cst, cst1, cstL, getT, getH, putT, onL, nxt, argT, cellsOf, PV.one, thn, inBlk, jmp, fldP, ldP, ldC, live, Cells.len, Cells.get, Cells.w, sug, ldv, bin, eqF, eq1, ops2, sh2, binv, Tk.agg, stC, apC, rdS, apS, cpC, cpS, mvL, zp, argsP, idx, fillP, toInts, chunks, mkC, ixS, ixA, oidx, slP, sl0, slA, optL, List.append, mxF, bltn, frzA, frz, frzL, frz1, pur1, Cells.pur, PV.scal, scal1, runD, rdO, PV.ids, id1, zids, ety, Eff.on, cnd, minb, and1b, ifmax, ifmin, mxv, sugI, strv, w0, w1, w2, wm1]
            repeat' apply And.intro
            any_goals (try omega)
            refine hL19 _ ⟨[(0, .ro (.rows 1 (xs.map fun w => [PV.ro (.rows 2 (w.map Sc.row))]))), (1, .ro (.rows 1 (ys.map fun w => [PV.ro (.rows 2 (w.map Sc.row))]))), (5, .int .i64 (k : Nat)), (6, .int .i64 ((i + 1) : Nat))], [], 0⟩ _ ?_ ⟨(i + 1), by omega, by omega, by (refine lt_step (by assumption) ?_; exact is_sc hc27), rfl, rfl⟩ ⟨by simp [getT, PV.lo, lo1, hiw], by simp [getH, Blk.lo, Cells.lo, lo1], rfl, by omega⟩
            omega
        · clear hC22
          try simp at hc22
          refine swp_exit ?_
          simp [thn, inBlk]
          refine hK12 _ ?_; clear hK12
          refine swp_region ty_ok ?_
          try simp (maxSteps := 1000000) [runs, gd, step1, need, evu, un, opnds, opv, ev, cst, cst1, cstL, getT, getH, putT, onL, nxt, argT, cellsOf, PV.one, thn, inBlk, jmp, fldP, ldP, ldC, live, Cells.len, Cells.get, Cells.w, sug, ldv, bin, eqF, eq1, ops2, sh2, binv, Tk.agg, stC, apC, rdS, apS, cpC, cpS, mvL, zp, argsP, idx, fillP, toInts, chunks, mkC, ixS, ixA, oidx, slP, sl0, slA, optL, List.append, mxF, bltn, frzA, frz, frzL, frz1, pur1, Cells.pur, PV.scal, scal1, runD, rdO, PV.ids, id1, zids, ety, Eff.on, cnd, minb, and1b, ifmax, ifmin, mxv, sugI, strv, w0, w1, w2, wm1]
          repeat' apply And.intro
          any_goals (try omega)
          refine hL8 _ ⟨[(0, .ro (.rows 1 (xs.map fun w => [PV.ro (.rows 2 (w.map Sc.row))]))), (1, .ro (.rows 1 (ys.map fun w => [PV.ro (.rows 2 (w.map Sc.row))]))), (5, .int .i64 ((k + 1) : Nat))], [], 0⟩ _ ?_ ⟨(k + 1), by omega, by omega, by (refine lt_step (by assumption) ?_; exact eqs_yes default (k := i) (by omega) (by omega) (by assumption)), rfl, rfl⟩ ⟨by simp [getT, PV.lo, lo1, hkw], by simp [getH, Blk.lo, Cells.lo, lo1], rfl, by omega⟩
          omega
    · clear hC11
      try simp at hc11
      refine swp_exit ?_
      simp [thn, inBlk]
      refine hK6 _ ?_; clear hK6
      refine swp_seq fun K29 hK29 => ?_
      refine swp_region ty_ok ?_
      try simp (maxSteps := 1000000) [runs, gd, step1, need, evu, un, opnds, opv, ev, cst, cst1, cstL, getT, getH, putT, onL, nxt, argT, cellsOf, PV.one, thn, inBlk, jmp, fldP, ldP, ldC, live, Cells.len, Cells.get, Cells.w, sug, ldv, bin, eqF, eq1, ops2, sh2, binv, Tk.agg, stC, apC, rdS, apS, cpC, cpS, mvL, zp, argsP, idx, fillP, toInts, chunks, mkC, ixS, ixA, oidx, slP, sl0, slA, optL, List.append, mxF, bltn, frzA, frz, frzL, frz1, pur1, Cells.pur, PV.scal, scal1, runD, rdO, PV.ids, id1, zids, ety, Eff.on, cnd, minb, and1b, ifmax, ifmin, mxv, sugI, strv, w0, w1, w2, wm1]
      repeat' (first | apply And.intro | intro _)
      any_goals (first | (refine hK29 _ ?_; clear hK29) | (first | omega | (simp only [IntKind.wrap_i64] at *; omega) | (simp_all; done) | (simp_all; omega)))
      refine swp_ret ?_
      simp [runs, gd, step1, need, evu, un, opnds, opv, ev, cst, cst1, cstL, getT, getH, putT, onL, nxt, argT, cellsOf, PV.one, thn, inBlk, jmp, fldP, ldP, ldC, live, Cells.len, Cells.get, Cells.w, sug, ldv, bin, eqF, eq1, ops2, sh2, binv, Tk.agg, stC, apC, rdS, apS, cpC, cpS, mvL, zp, argsP, idx, fillP, toInts, chunks, mkC, ixS, ixA, oidx, slP, sl0, slA, optL, List.append, mxF, bltn, frzA, frz, frzL, frz1, pur1, Cells.pur, PV.scal, scal1, runD, rdO, PV.ids, id1, zids, ety, Eff.on, cnd, minb, and1b, ifmax, ifmin, mxv, sugI, strv, w0, w1, w2, wm1, fnPost, Try.results38, resP, tupOf]
      exact eqs_yes [] (by omega) (by omega) (by assumption)

theorem great19_ok (l : List (List Sc)) : PCall Try.prog 28 [.ro (.rows 1 (l.map fun w => [.ro (.rows 2 (w.map Sc.row))]))] (.bool (grt19 l)) := by
  refine pcall_body ty_ok Try.func28 rfl (by rfl) (by simp) ?_
  rw [Try.ntmps28]
  refine swp_seq fun K1 hK1 => ?_
  refine swp_region ty_ok ?_
  try simp (maxSteps := 1000000) [runs, gd, step1, need, evu, un, opnds, opv, ev, cst, cst1, cstL, getT, getH, putT, onL, nxt, argT, cellsOf, PV.one, thn, inBlk, jmp, fldP, ldP, ldC, live, Cells.len, Cells.get, Cells.w, sug, ldv, bin, eqF, eq1, ops2, sh2, binv, Tk.agg, stC, apC, rdS, apS, cpC, cpS, mvL, zp, argsP, idx, fillP, toInts, chunks, mkC, ixS, ixA, oidx, slP, sl0, slA, optL, List.append, mxF, bltn, frzA, frz, frzL, frz1, pur1, Cells.pur, PV.scal, scal1, runD, rdO, PV.ids, id1, zids, ety, Eff.on, cnd, minb, and1b, ifmax, ifmin, mxv, sugI, strv, w0, w1, w2, wm1]
  repeat' (first | apply And.intro | intro _)
  any_goals (first | (refine hK1 _ ?_; clear hK1) | (first | omega | (simp only [IntKind.wrap_i64] at *; omega) | (simp_all; done) | (simp_all; omega)))
  refine swp_seq fun K2 hK2 => ?_
  refine swp_seq fun K3 hK3 => ?_
  refine swp_region ty_ok ?_
  try simp (maxSteps := 1000000) [runs, gd, step1, need, evu, un, opnds, opv, ev, cst, cst1, cstL, getT, getH, putT, onL, nxt, argT, cellsOf, PV.one, thn, inBlk, jmp, fldP, ldP, ldC, live, Cells.len, Cells.get, Cells.w, sug, ldv, bin, eqF, eq1, ops2, sh2, binv, Tk.agg, stC, apC, rdS, apS, cpC, cpS, mvL, zp, argsP, idx, fillP, toInts, chunks, mkC, ixS, ixA, oidx, slP, sl0, slA, optL, List.append, mxF, bltn, frzA, frz, frzL, frz1, pur1, Cells.pur, PV.scal, scal1, runD, rdO, PV.ids, id1, zids, ety, Eff.on, cnd, minb, and1b, ifmax, ifmin, mxv, sugI, strv, w0, w1, w2, wm1]
  repeat' (first | apply And.intro | intro _)
  any_goals (first | (refine hK3 _ ?_; clear hK3) | (first | omega | (simp only [IntKind.wrap_i64] at *; omega) | (simp_all; done) | (simp_all; omega)))
  refine swp_block ?_
  refine swp_loop 0 (fun m_ s_ => ∃ (k : Nat), (k ≤ l.length ∧ k ≤ 100) ∧ (∀ j < k, (l[j]?.getD []).length ≤ 200) ∧ s_ = ⟨[(0, .ro (.rows 1 (l.map fun w => [.ro (.rows 2 (w.map Sc.row))]))), (3, .int .i64 (k : Nat))], [], 0⟩ ∧ m_ = 100 - k) _ ⟨[(0, .ro (.rows 1 (l.map fun w => [.ro (.rows 2 (w.map Sc.row))]))), (3, .int .i64 (0 : Nat))], [], 0⟩ ⟨by simp [getT, PV.lo, lo1], by simp [getH, Blk.lo, Cells.lo, lo1], rfl, by omega⟩ ⟨(0), by omega, by simp, rfl, rfl⟩ ?_
  rintro m_ s_ ⟨k, hL4_0, hL4_1, rfl, rfl⟩ KL4 hL4
  have hkw := wnext (i := k) (by omega)
  refine swp_seq fun K5 hK5 => ?_
  refine swp_seq fun K6 hK6 => ?_
  refine swp_region ty_ok ?_
  try simp (maxSteps := 1000000) [runs, gd, step1, need, evu, un, opnds, opv, ev, cst, cst1, cstL, getT, getH, putT, onL, nxt, argT, cellsOf, PV.one, thn, inBlk, jmp, fldP, ldP, ldC, live, Cells.len, Cells.get, Cells.w, sug, ldv, bin, eqF, eq1, ops2, sh2, binv, Tk.agg, stC, apC, rdS, apS, cpC, cpS, mvL, zp, argsP, idx, fillP, toInts, chunks, mkC, ixS, ixA, oidx, slP, sl0, slA, optL, List.append, mxF, bltn, frzA, frz, frzL, frz1, pur1, Cells.pur, PV.scal, scal1, runD, rdO, PV.ids, id1, zids, ety, Eff.on, cnd, minb, and1b, ifmax, ifmin, mxv, sugI, strv, w0, w1, w2, wm1]
  repeat' (first | apply And.intro | intro _)
  any_goals (first | (refine hK6 _ ?_; clear hK6) | (first | omega | (simp only [IntKind.wrap_i64] at *; omega) | (simp_all; done) | (simp_all; omega)))
  refine swp_if fun C7 hC7 => ?_
  try simp (maxSteps := 1000000) [runs, gd, step1, need, evu, un, opnds, opv, ev, cst, cst1, cstL, getT, getH, putT, onL, nxt, argT, cellsOf, PV.one, thn, inBlk, jmp, fldP, ldP, ldC, live, Cells.len, Cells.get, Cells.w, sug, ldv, bin, eqF, eq1, ops2, sh2, binv, Tk.agg, stC, apC, rdS, apS, cpC, cpS, mvL, zp, argsP, idx, fillP, toInts, chunks, mkC, ixS, ixA, oidx, slP, sl0, slA, optL, List.append, mxF, bltn, frzA, frz, frzL, frz1, pur1, Cells.pur, PV.scal, scal1, runD, rdO, PV.ids, id1, zids, ety, Eff.on, cnd, minb, and1b, ifmax, ifmin, mxv, sugI, strv, w0, w1, w2, wm1]
  refine hC7 _ (fun hc7 => ?_) (fun hc7 => ?_)
  · clear hC7
    try simp at hc7
    refine swp_skip ?_
    try simp only [thn, inBlk]
    refine hK5 _ ?_; clear hK5
    refine swp_seq fun K8 hK8 => ?_
    refine swp_block ?_
    refine swp_seq fun K9 hK9 => ?_
    have hrow := s_at (l := l) (k := k) (by omega)
    refine swp_region ty_ok ?_
    try simp (maxSteps := 1000000) [runs, gd, step1, need, evu, un, opnds, opv, ev, cst, cst1, cstL, getT, getH, putT, onL, nxt, argT, cellsOf, PV.one, thn, inBlk, jmp, fldP, ldP, ldC, live, Cells.len, Cells.get, Cells.w, sug, ldv, bin, eqF, eq1, ops2, sh2, binv, Tk.agg, stC, apC, rdS, apS, cpC, cpS, mvL, zp, argsP, idx, fillP, toInts, chunks, mkC, ixS, ixA, oidx, slP, sl0, slA, optL, List.append, mxF, bltn, frzA, frz, frzL, frz1, pur1, Cells.pur, PV.scal, scal1, runD, rdO, PV.ids, id1, zids, ety, Eff.on, cnd, minb, and1b, ifmax, ifmin, mxv, sugI, strv, w0, w1, w2, wm1, hrow]
    repeat' (first | apply And.intro | intro _)
    any_goals (first | (refine hK9 _ ?_; clear hK9) | (first | omega | (simp only [IntKind.wrap_i64] at *; omega) | (simp_all; done) | (simp_all; omega)))
    refine swp_if fun C10 hC10 => ?_
    try simp (maxSteps := 1000000) [runs, gd, step1, need, evu, un, opnds, opv, ev, cst, cst1, cstL, getT, getH, putT, onL, nxt, argT, cellsOf, PV.one, thn, inBlk, jmp, fldP, ldP, ldC, live, Cells.len, Cells.get, Cells.w, sug, ldv, bin, eqF, eq1, ops2, sh2, binv, Tk.agg, stC, apC, rdS, apS, cpC, cpS, mvL, zp, argsP, idx, fillP, toInts, chunks, mkC, ixS, ixA, oidx, slP, sl0, slA, optL, List.append, mxF, bltn, frzA, frz, frzL, frz1, pur1, Cells.pur, PV.scal, scal1, runD, rdO, PV.ids, id1, zids, ety, Eff.on, cnd, minb, and1b, ifmax, ifmin, mxv, sugI, strv, w0, w1, w2, wm1, hrow]
    refine hC10 _ (fun hc10 => ?_) (fun hc10 => ?_)
    · clear hC10
      try simp at hc10
      refine swp_seq fun K11 hK11 => ?_
      refine swp_region ty_ok ?_
      try simp (maxSteps := 1000000) [runs, gd, step1, need, evu, un, opnds, opv, ev, cst, cst1, cstL, getT, getH, putT, onL, nxt, argT, cellsOf, PV.one, thn, inBlk, jmp, fldP, ldP, ldC, live, Cells.len, Cells.get, Cells.w, sug, ldv, bin, eqF, eq1, ops2, sh2, binv, Tk.agg, stC, apC, rdS, apS, cpC, cpS, mvL, zp, argsP, idx, fillP, toInts, chunks, mkC, ixS, ixA, oidx, slP, sl0, slA, optL, List.append, mxF, bltn, frzA, frz, frzL, frz1, pur1, Cells.pur, PV.scal, scal1, runD, rdO, PV.ids, id1, zids, ety, Eff.on, cnd, minb, and1b, ifmax, ifmin, mxv, sugI, strv, w0, w1, w2, wm1]
      repeat' (first | apply And.intro | intro _)
      any_goals (first | (refine hK11 _ ?_; clear hK11) | (first | omega | (simp only [IntKind.wrap_i64] at *; omega) | (simp_all; done) | (simp_all; omega)))
      refine swp_ret ?_
      simp [runs, gd, step1, need, evu, un, opnds, opv, ev, cst, cst1, cstL, getT, getH, putT, onL, nxt, argT, cellsOf, PV.one, thn, inBlk, jmp, fldP, ldP, ldC, live, Cells.len, Cells.get, Cells.w, sug, ldv, bin, eqF, eq1, ops2, sh2, binv, Tk.agg, stC, apC, rdS, apS, cpC, cpS, mvL, zp, argsP, idx, fillP, toInts, chunks, mkC, ixS, ixA, oidx, slP, sl0, slA, optL, List.append, mxF, bltn, frzA, frz, frzL, frz1, pur1, Cells.pur, PV.scal, scal1, runD, rdO, PV.ids, id1, zids, ety, Eff.on, cnd, minb, and1b, ifmax, ifmin, mxv, sugI, strv, w0, w1, w2, wm1, fnPost, Try.results28, resP, tupOf]
      exact grt_y (k := k) (by omega) (by omega) (by have h := hc10; omega)
    · clear hC10
      try simp at hc10
      refine swp_skip ?_
      try simp only [thn, inBlk]
      refine hK8 _ ?_; clear hK8
      refine swp_region ty_ok ?_
      try simp (maxSteps := 1000000) [runs, gd, step1, need, evu, un, opnds, opv, ev, cst, cst1, cstL, getT, getH, putT, onL, nxt, argT, cellsOf, PV.one, thn, inBlk, jmp, fldP, ldP, ldC, live, Cells.len, Cells.get, Cells.w, sug, ldv, bin, eqF, eq1, ops2, sh2, binv, Tk.agg, stC, apC, rdS, apS, cpC, cpS, mvL, zp, argsP, idx, fillP, toInts, chunks, mkC, ixS, ixA, oidx, slP, sl0, slA, optL, List.append, mxF, bltn, frzA, frz, frzL, frz1, pur1, Cells.pur, PV.scal, scal1, runD, rdO, PV.ids, id1, zids, ety, Eff.on, cnd, minb, and1b, ifmax, ifmin, mxv, sugI, strv, w0, w1, w2, wm1]
      repeat' apply And.intro
      any_goals (try omega)
      refine hL4 _ ⟨[(0, .ro (.rows 1 (l.map fun w => [.ro (.rows 2 (w.map Sc.row))]))), (3, .int .i64 ((k + 1) : Nat))], [], 0⟩ _ ?_ ⟨(k + 1), by omega, by (refine lt_step (by assumption) ?_; have h := hc10; omega), rfl, rfl⟩ ⟨by simp [getT, PV.lo, lo1, hkw], by simp [getH, Blk.lo, Cells.lo, lo1], rfl, by omega⟩
      omega
  · clear hC7
    try simp at hc7
    refine swp_exit ?_
    simp [thn, inBlk]
    refine hK2 _ ?_; clear hK2
    refine swp_seq fun K12 hK12 => ?_
    refine swp_region ty_ok ?_
    try simp (maxSteps := 1000000) [runs, gd, step1, need, evu, un, opnds, opv, ev, cst, cst1, cstL, getT, getH, putT, onL, nxt, argT, cellsOf, PV.one, thn, inBlk, jmp, fldP, ldP, ldC, live, Cells.len, Cells.get, Cells.w, sug, ldv, bin, eqF, eq1, ops2, sh2, binv, Tk.agg, stC, apC, rdS, apS, cpC, cpS, mvL, zp, argsP, idx, fillP, toInts, chunks, mkC, ixS, ixA, oidx, slP, sl0, slA, optL, List.append, mxF, bltn, frzA, frz, frzL, frz1, pur1, Cells.pur, PV.scal, scal1, runD, rdO, PV.ids, id1, zids, ety, Eff.on, cnd, minb, and1b, ifmax, ifmin, mxv, sugI, strv, w0, w1, w2, wm1]
    repeat' (first | apply And.intro | intro _)
    any_goals (first | (refine hK12 _ ?_; clear hK12) | (first | omega | (simp only [IntKind.wrap_i64] at *; omega) | (simp_all; done) | (simp_all; omega)))
    refine swp_ret ?_
    simp [runs, gd, step1, need, evu, un, opnds, opv, ev, cst, cst1, cstL, getT, getH, putT, onL, nxt, argT, cellsOf, PV.one, thn, inBlk, jmp, fldP, ldP, ldC, live, Cells.len, Cells.get, Cells.w, sug, ldv, bin, eqF, eq1, ops2, sh2, binv, Tk.agg, stC, apC, rdS, apS, cpC, cpS, mvL, zp, argsP, idx, fillP, toInts, chunks, mkC, ixS, ixA, oidx, slP, sl0, slA, optL, List.append, mxF, bltn, frzA, frz, frzL, frz1, pur1, Cells.pur, PV.scal, scal1, runD, rdO, PV.ids, id1, zids, ety, Eff.on, cnd, minb, and1b, ifmax, ifmin, mxv, sugI, strv, w0, w1, w2, wm1, fnPost, Try.results28, resP, tupOf]
    rw [grt_e (l := l) (k := k) (by have h := hc7; omega) (by assumption)]
    exact decide_eq_decide.2 (by omega)

end Go.Proofs.Ytkhjiabenifplaa

