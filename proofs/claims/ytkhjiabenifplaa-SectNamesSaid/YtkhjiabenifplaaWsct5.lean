import Derived.Test.YtkhjiabenifplaaWf
import Derived.Test.YtkhjiabenifplaaTyi
import Derived.Test.YtkhjiabenifplaaWband
import Derived.Test.YtkhjiabenifplaaWinfo
import Derived.Test.YtkhjiabenifplaaWbits
import Derived.Test.YtkhjiabenifplaaWrd
import Derived.Test.YtkhjiabenifplaaWrdq
import Derived.Test.YtkhjiabenifplaaWsct
import Derived.Test.YtkhjiabenifplaaWsct2
import Derived.Test.YtkhjiabenifplaaWsct3
import Derived.Test.YtkhjiabenifplaaWbits2
import Derived.Test.YtkhjiabenifplaaWsct4
namespace Go.Proofs.Ytkhjiabenifplaa
set_option linter.unusedVariables false
set_option linter.unusedSimpArgs false
set_option maxRecDepth 10000
open Go Go.Pv

open Go.RowKit
def manyS (l : List (List Sc)) (k : Nat) : Nat := ((l.take k).map List.length).sum
def leastS (s : Int) : Nat := if s = 2 then 7 else 9
theorem bsC0 : chX 0 0 3 [1] [[⟨2, 3⟩]] = 0 := by decide +kernel
theorem bsC1 : chX 2 0 7 [8] [[⟨11, 7⟩]] = 0 := by decide +kernel
theorem bsA0 : aB 0 [[⟨2, 3⟩]] 1 = [0, 0, 1, 0, 0, 0, 0, 1, 1] := by decide +kernel
theorem bsA1 : aB 2 [[⟨11, 7⟩]] 1 = [1, 0, 1, 1, 1, 1, 1, 0, 0, 0] := by decide +kernel
theorem bsG0 : (sgetX [0, 0, 1, 0, 0, 0, 1, 0, 0] 0 0 0 3 [1]).2.2 = 8 := by decide +kernel
theorem bsG1 : (sgetX [0, 0, 1, 0, 0, 0, 0, 0, 0] 0 0 0 3 [1]).2.2 = 8 := by decide +kernel
theorem bsG2 : (sgetX [1, 1, 0, 0, 0, 0, 0, 1, 1] 0 0 0 3 [1]).2.2 = 8 := by decide +kernel
theorem bsG3 : (sgetX [] 0 0 0 3 [1]).2.2 = 5 := by decide +kernel
theorem bsG4 : (sgetX [] 0 0 0 0 []).2.2 = 8 := by decide +kernel
def strB (xs : List Int) : ByteArray := xs.foldl (fun r n => r.push (UInt8.ofNat n.toNat)) ByteArray.empty
theorem long_ok  : PCall Try.prog 33 [] (.agg [.int .u8 0, .int .u8 0, .int .i64 3, .ro (.ints .i64 [1])]) := by
  refine pcall_body ty_ok Try.func33 rfl (by rfl) (by simp) ?_
  rw [Try.ntmps33]
  refine swp_seq fun K1 hK1 => ?_
  refine swp_region ty_ok ?_
  try simp (maxSteps := 1000000) [runs, gd, step1, need, evu, un, opnds, opv, ev, cst, cst1, cstL, getT, getH, putT, onL, nxt, argT, cellsOf, PV.one, thn, inBlk, jmp, fldP, ldP, ldC, live, Cells.len, Cells.get, Cells.w, sug, ldv, bin, eqF, eq1, ops2, sh2, binv, Tk.agg, stC, apC, rdS, apS, cpC, cpS, mvL, zp, argsP, idx, fillP, toInts, chunks, mkC, ixS, ixA, oidx, slP, sl0, slA, optL, List.append, mxF, bltn, frzA, frz, frzL, frz1, pur1, Cells.pur, PV.scal, scal1, runD, rdO, PV.ids, id1, zids, ety, Eff.on, cnd, minb, and1b, ifmax, ifmin, mxv, sugI, strv, w0, w1, w2, wm1]
  repeat' (first | apply And.intro | intro _)
  any_goals (first | (refine hK1 _ ?_; clear hK1) | (first | omega | (simp only [IntKind.wrap_i64] at *; omega) | (simp_all; done) | (simp_all; omega)))
  refine swp_seq fun K2 hK2 => ?_
  refine swp_region ty_ok ?_
  refine runs_cut 1 fun R3 hR3 => ?_
  try simp (maxSteps := 1000000) [runs, gd, step1, need, evu, un, opnds, opv, ev, cst, cst1, cstL, getT, getH, putT, onL, nxt, argT, cellsOf, PV.one, thn, inBlk, jmp, fldP, ldP, ldC, live, Cells.len, Cells.get, Cells.w, sug, ldv, bin, eqF, eq1, ops2, sh2, binv, Tk.agg, stC, apC, rdS, apS, cpC, cpS, mvL, zp, argsP, idx, fillP, toInts, chunks, mkC, ixS, ixA, oidx, slP, sl0, slA, optL, List.append, mxF, bltn, frzA, frz, frzL, frz1, pur1, Cells.pur, PV.scal, scal1, runD, rdO, PV.ids, id1, zids, ety, Eff.on, cnd, minb, and1b, ifmax, ifmin, mxv, sugI, strv, w0, w1, w2, wm1, List.take_succ_cons, List.take_zero, List.drop_succ_cons, List.drop_zero]
  repeat' (first | apply And.intro | intro _)
  any_goals (first | (refine Or.inl (hR3 _ ?_); clear hR3) | (first | omega | (simp only [IntKind.wrap_i64] at *; omega) | (simp_all; done) | (simp_all; omega)))
  try simp (maxSteps := 1000000) [runs, gd, step1, need, evu, un, opnds, opv, ev, cst, cst1, cstL, getT, getH, putT, onL, nxt, argT, cellsOf, PV.one, thn, inBlk, jmp, fldP, ldP, ldC, live, Cells.len, Cells.get, Cells.w, sug, ldv, bin, eqF, eq1, ops2, sh2, binv, Tk.agg, stC, apC, rdS, apS, cpC, cpS, mvL, zp, argsP, idx, fillP, toInts, chunks, mkC, ixS, ixA, oidx, slP, sl0, slA, optL, List.append, mxF, bltn, frzA, frz, frzL, frz1, pur1, Cells.pur, PV.scal, scal1, runD, rdO, PV.ids, id1, zids, ety, Eff.on, cnd, minb, and1b, ifmax, ifmin, mxv, sugI, strv, w0, w1, w2, wm1, List.take_succ_cons, List.take_zero, List.drop_succ_cons, List.drop_zero]
  repeat' (first | apply And.intro | intro _)
  any_goals (first | (refine hK2 _ ?_; clear hK2) | (first | omega | (simp only [IntKind.wrap_i64] at *; omega) | (simp_all; done) | (simp_all; omega)))
  refine swp_ret ?_
  simp [runs, gd, step1, need, evu, un, opnds, opv, ev, cst, cst1, cstL, getT, getH, putT, onL, nxt, argT, cellsOf, PV.one, thn, inBlk, jmp, fldP, ldP, ldC, live, Cells.len, Cells.get, Cells.w, sug, ldv, bin, eqF, eq1, ops2, sh2, binv, Tk.agg, stC, apC, rdS, apS, cpC, cpS, mvL, zp, argsP, idx, fillP, toInts, chunks, mkC, ixS, ixA, oidx, slP, sl0, slA, optL, List.append, mxF, bltn, frzA, frz, frzL, frz1, pur1, Cells.pur, PV.scal, scal1, runD, rdO, PV.ids, id1, zids, ety, Eff.on, cnd, minb, and1b, ifmax, ifmin, mxv, sugI, strv, w0, w1, w2, wm1, fnPost, Try.results33, resP, tupOf]

theorem alive19  : PCall Try.prog 27 [] (.bool true) := by
  refine pcall_body ty_ok Try.func27 rfl (by rfl) (by simp) ?_
  rw [Try.ntmps27]
  refine swp_seq fun K1 hK1 => ?_
  refine swp_region ty_ok ?_
  try simp (maxSteps := 1000000) [runs, gd, step1, need, evu, un, opnds, opv, ev, cst, cst1, cstL, getT, getH, putT, onL, nxt, argT, cellsOf, PV.one, thn, inBlk, jmp, fldP, ldP, ldC, live, Cells.len, Cells.get, Cells.w, sug, ldv, bin, eqF, eq1, ops2, sh2, binv, Tk.agg, stC, apC, rdS, apS, cpC, cpS, mvL, zp, argsP, idx, fillP, toInts, chunks, mkC, ixS, ixA, oidx, slP, sl0, slA, optL, List.append, mxF, bltn, frzA, frz, frzL, frz1, pur1, Cells.pur, PV.scal, scal1, runD, rdO, PV.ids, id1, zids, ety, Eff.on, cnd, minb, and1b, ifmax, ifmin, mxv, sugI, strv, w0, w1, w2, wm1, bsA0, bsA1]
  repeat' (first | apply And.intro | intro _)
  any_goals (first | (refine hK1 _ ?_; clear hK1) | (first | omega | (simp only [IntKind.wrap_i64] at *; omega) | (simp_all; done) | (simp_all; omega)))
  refine swp_seq fun K2 hK2 => ?_
  refine swp_region ty_ok ?_
  refine runs_cut 1 fun R3 hR3 => ?_
  try simp (maxSteps := 1000000) [runs, gd, step1, need, evu, un, opnds, opv, ev, cst, cst1, cstL, getT, getH, putT, onL, nxt, argT, cellsOf, PV.one, thn, inBlk, jmp, fldP, ldP, ldC, live, Cells.len, Cells.get, Cells.w, sug, ldv, bin, eqF, eq1, ops2, sh2, binv, Tk.agg, stC, apC, rdS, apS, cpC, cpS, mvL, zp, argsP, idx, fillP, toInts, chunks, mkC, ixS, ixA, oidx, slP, sl0, slA, optL, List.append, mxF, bltn, frzA, frz, frzL, frz1, pur1, Cells.pur, PV.scal, scal1, runD, rdO, PV.ids, id1, zids, ety, Eff.on, cnd, minb, and1b, ifmax, ifmin, mxv, sugI, strv, w0, w1, w2, wm1, bsA0, bsA1, List.take_succ_cons, List.take_zero, List.drop_succ_cons, List.drop_zero]
  refine .inl ⟨_, long_ok, ?_⟩
  try simp (maxSteps := 1000000) [runs, gd, step1, need, evu, un, opnds, opv, ev, cst, cst1, cstL, getT, getH, putT, onL, nxt, argT, cellsOf, PV.one, thn, inBlk, jmp, fldP, ldP, ldC, live, Cells.len, Cells.get, Cells.w, sug, ldv, bin, eqF, eq1, ops2, sh2, binv, Tk.agg, stC, apC, rdS, apS, cpC, cpS, mvL, zp, argsP, idx, fillP, toInts, chunks, mkC, ixS, ixA, oidx, slP, sl0, slA, optL, List.append, mxF, bltn, frzA, frz, frzL, frz1, pur1, Cells.pur, PV.scal, scal1, runD, rdO, PV.ids, id1, zids, ety, Eff.on, cnd, minb, and1b, ifmax, ifmin, mxv, sugI, strv, w0, w1, w2, wm1, bsA0, bsA1]
  repeat' (first | apply And.intro | intro _)
  any_goals (first | (refine hR3 _ ?_; clear hR3) | (first | omega | (simp only [IntKind.wrap_i64] at *; omega) | (simp_all; done) | (simp_all; omega)))
  refine runs_cut 1 fun R4 hR4 => ?_
  try simp (maxSteps := 1000000) [runs, gd, step1, need, evu, un, opnds, opv, ev, cst, cst1, cstL, getT, getH, putT, onL, nxt, argT, cellsOf, PV.one, thn, inBlk, jmp, fldP, ldP, ldC, live, Cells.len, Cells.get, Cells.w, sug, ldv, bin, eqF, eq1, ops2, sh2, binv, Tk.agg, stC, apC, rdS, apS, cpC, cpS, mvL, zp, argsP, idx, fillP, toInts, chunks, mkC, ixS, ixA, oidx, slP, sl0, slA, optL, List.append, mxF, bltn, frzA, frz, frzL, frz1, pur1, Cells.pur, PV.scal, scal1, runD, rdO, PV.ids, id1, zids, ety, Eff.on, cnd, minb, and1b, ifmax, ifmin, mxv, sugI, strv, w0, w1, w2, wm1, bsA0, bsA1, List.take_succ_cons, List.take_zero, List.drop_succ_cons, List.drop_zero]
  repeat' (first | apply And.intro | intro _)
  any_goals (first | (refine hR4 _ ?_; clear hR4) | (first | omega | (simp only [IntKind.wrap_i64] at *; omega) | (simp_all; done) | (simp_all; omega)))
  refine runs_cut 1 fun R5 hR5 => ?_
  try simp (maxSteps := 1000000) [runs, gd, step1, need, evu, un, opnds, opv, ev, cst, cst1, cstL, getT, getH, putT, onL, nxt, argT, cellsOf, PV.one, thn, inBlk, jmp, fldP, ldP, ldC, live, Cells.len, Cells.get, Cells.w, sug, ldv, bin, eqF, eq1, ops2, sh2, binv, Tk.agg, stC, apC, rdS, apS, cpC, cpS, mvL, zp, argsP, idx, fillP, toInts, chunks, mkC, ixS, ixA, oidx, slP, sl0, slA, optL, List.append, mxF, bltn, frzA, frz, frzL, frz1, pur1, Cells.pur, PV.scal, scal1, runD, rdO, PV.ids, id1, zids, ety, Eff.on, cnd, minb, and1b, ifmax, ifmin, mxv, sugI, strv, w0, w1, w2, wm1, bsA0, bsA1, List.take_succ_cons, List.take_zero, List.drop_succ_cons, List.drop_zero]
  repeat' (first | apply And.intro | intro _)
  any_goals (first | (refine Or.inl (hR5 _ ?_); clear hR5) | (first | omega | (simp only [IntKind.wrap_i64] at *; omega) | (simp_all; done) | (simp_all; omega)))
  refine runs_cut 1 fun R6 hR6 => ?_
  try simp (maxSteps := 1000000) [runs, gd, step1, need, evu, un, opnds, opv, ev, cst, cst1, cstL, getT, getH, putT, onL, nxt, argT, cellsOf, PV.one, thn, inBlk, jmp, fldP, ldP, ldC, live, Cells.len, Cells.get, Cells.w, sug, ldv, bin, eqF, eq1, ops2, sh2, binv, Tk.agg, stC, apC, rdS, apS, cpC, cpS, mvL, zp, argsP, idx, fillP, toInts, chunks, mkC, ixS, ixA, oidx, slP, sl0, slA, optL, List.append, mxF, bltn, frzA, frz, frzL, frz1, pur1, Cells.pur, PV.scal, scal1, runD, rdO, PV.ids, id1, zids, ety, Eff.on, cnd, minb, and1b, ifmax, ifmin, mxv, sugI, strv, w0, w1, w2, wm1, bsA0, bsA1, List.take_succ_cons, List.take_zero, List.drop_succ_cons, List.drop_zero]
  repeat' (first | apply And.intro | intro _)
  any_goals (first | (refine Or.inl (hR6 _ ?_); clear hR6) | (first | omega | (simp only [IntKind.wrap_i64] at *; omega) | (simp_all; done) | (simp_all; omega)))
  refine runs_cut 1 fun R7 hR7 => ?_
  try simp (maxSteps := 1000000) [runs, gd, step1, need, evu, un, opnds, opv, ev, cst, cst1, cstL, getT, getH, putT, onL, nxt, argT, cellsOf, PV.one, thn, inBlk, jmp, fldP, ldP, ldC, live, Cells.len, Cells.get, Cells.w, sug, ldv, bin, eqF, eq1, ops2, sh2, binv, Tk.agg, stC, apC, rdS, apS, cpC, cpS, mvL, zp, argsP, idx, fillP, toInts, chunks, mkC, ixS, ixA, oidx, slP, sl0, slA, optL, List.append, mxF, bltn, frzA, frz, frzL, frz1, pur1, Cells.pur, PV.scal, scal1, runD, rdO, PV.ids, id1, zids, ety, Eff.on, cnd, minb, and1b, ifmax, ifmin, mxv, sugI, strv, w0, w1, w2, wm1, bsA0, bsA1, List.take_succ_cons, List.take_zero, List.drop_succ_cons, List.drop_zero]
  refine .inl ⟨_, (by have h := sput_ok [] 0 0 3 [1] (by simp) [[⟨2, 3⟩]] (by simp) (by simp) (by simp); rw [bsC0] at h; exact h), ?_⟩
  try simp (maxSteps := 1000000) [runs, gd, step1, need, evu, un, opnds, opv, ev, cst, cst1, cstL, getT, getH, putT, onL, nxt, argT, cellsOf, PV.one, thn, inBlk, jmp, fldP, ldP, ldC, live, Cells.len, Cells.get, Cells.w, sug, ldv, bin, eqF, eq1, ops2, sh2, binv, Tk.agg, stC, apC, rdS, apS, cpC, cpS, mvL, zp, argsP, idx, fillP, toInts, chunks, mkC, ixS, ixA, oidx, slP, sl0, slA, optL, List.append, mxF, bltn, frzA, frz, frzL, frz1, pur1, Cells.pur, PV.scal, scal1, runD, rdO, PV.ids, id1, zids, ety, Eff.on, cnd, minb, and1b, ifmax, ifmin, mxv, sugI, strv, w0, w1, w2, wm1, bsA0, bsA1]
  repeat' (first | apply And.intro | intro _)
  any_goals (first | (refine hR7 _ ?_; clear hR7) | (first | omega | (simp only [IntKind.wrap_i64] at *; omega) | (simp_all; done) | (simp_all; omega)))
  try simp (maxSteps := 1000000) [runs, gd, step1, need, evu, un, opnds, opv, ev, cst, cst1, cstL, getT, getH, putT, onL, nxt, argT, cellsOf, PV.one, thn, inBlk, jmp, fldP, ldP, ldC, live, Cells.len, Cells.get, Cells.w, sug, ldv, bin, eqF, eq1, ops2, sh2, binv, Tk.agg, stC, apC, rdS, apS, cpC, cpS, mvL, zp, argsP, idx, fillP, toInts, chunks, mkC, ixS, ixA, oidx, slP, sl0, slA, optL, List.append, mxF, bltn, frzA, frz, frzL, frz1, pur1, Cells.pur, PV.scal, scal1, runD, rdO, PV.ids, id1, zids, ety, Eff.on, cnd, minb, and1b, ifmax, ifmin, mxv, sugI, strv, w0, w1, w2, wm1, bsA0, bsA1, List.take_succ_cons, List.take_zero, List.drop_succ_cons, List.drop_zero]
  repeat' (first | apply And.intro | intro _)
  any_goals (first | (refine hK2 _ ?_; clear hK2) | (first | omega | (simp only [IntKind.wrap_i64] at *; omega) | (simp_all; done) | (simp_all; omega)))
  refine swp_seq fun K8 hK8 => ?_
  refine swp_region ty_ok ?_
  refine runs_cut 1 fun R9 hR9 => ?_
  try simp (maxSteps := 1000000) [runs, gd, step1, need, evu, un, opnds, opv, ev, cst, cst1, cstL, getT, getH, putT, onL, nxt, argT, cellsOf, PV.one, thn, inBlk, jmp, fldP, ldP, ldC, live, Cells.len, Cells.get, Cells.w, sug, ldv, bin, eqF, eq1, ops2, sh2, binv, Tk.agg, stC, apC, rdS, apS, cpC, cpS, mvL, zp, argsP, idx, fillP, toInts, chunks, mkC, ixS, ixA, oidx, slP, sl0, slA, optL, List.append, mxF, bltn, frzA, frz, frzL, frz1, pur1, Cells.pur, PV.scal, scal1, runD, rdO, PV.ids, id1, zids, ety, Eff.on, cnd, minb, and1b, ifmax, ifmin, mxv, sugI, strv, w0, w1, w2, wm1, bsA0, bsA1, List.take_succ_cons, List.take_zero, List.drop_succ_cons, List.drop_zero]
  repeat' (first | apply And.intro | intro _)
  any_goals (first | (refine Or.inl (hR9 _ ?_); clear hR9) | (first | omega | (simp only [IntKind.wrap_i64] at *; omega) | (simp_all; done) | (simp_all; omega)))
  refine runs_cut 2 fun R10 hR10 => ?_
  try simp (maxSteps := 1000000) [runs, gd, step1, need, evu, un, opnds, opv, ev, cst, cst1, cstL, getT, getH, putT, onL, nxt, argT, cellsOf, PV.one, thn, inBlk, jmp, fldP, ldP, ldC, live, Cells.len, Cells.get, Cells.w, sug, ldv, bin, eqF, eq1, ops2, sh2, binv, Tk.agg, stC, apC, rdS, apS, cpC, cpS, mvL, zp, argsP, idx, fillP, toInts, chunks, mkC, ixS, ixA, oidx, slP, sl0, slA, optL, List.append, mxF, bltn, frzA, frz, frzL, frz1, pur1, Cells.pur, PV.scal, scal1, runD, rdO, PV.ids, id1, zids, ety, Eff.on, cnd, minb, and1b, ifmax, ifmin, mxv, sugI, strv, w0, w1, w2, wm1, bsA0, bsA1, List.take_succ_cons, List.take_zero, List.drop_succ_cons, List.drop_zero]
  repeat' (first | apply And.intro | intro _)
  any_goals (first | (refine hR10 _ ?_; clear hR10) | (first | omega | (simp only [IntKind.wrap_i64] at *; omega) | (simp_all; done) | (simp_all; omega)))
  refine runs_cut 1 fun R11 hR11 => ?_
  try simp (maxSteps := 1000000) [runs, gd, step1, need, evu, un, opnds, opv, ev, cst, cst1, cstL, getT, getH, putT, onL, nxt, argT, cellsOf, PV.one, thn, inBlk, jmp, fldP, ldP, ldC, live, Cells.len, Cells.get, Cells.w, sug, ldv, bin, eqF, eq1, ops2, sh2, binv, Tk.agg, stC, apC, rdS, apS, cpC, cpS, mvL, zp, argsP, idx, fillP, toInts, chunks, mkC, ixS, ixA, oidx, slP, sl0, slA, optL, List.append, mxF, bltn, frzA, frz, frzL, frz1, pur1, Cells.pur, PV.scal, scal1, runD, rdO, PV.ids, id1, zids, ety, Eff.on, cnd, minb, and1b, ifmax, ifmin, mxv, sugI, strv, w0, w1, w2, wm1, bsA0, bsA1, List.take_succ_cons, List.take_zero, List.drop_succ_cons, List.drop_zero]
  repeat' (first | apply And.intro | intro _)
  any_goals (first | (refine Or.inl (hR11 _ ?_); clear hR11) | (first | omega | (simp only [IntKind.wrap_i64] at *; omega) | (simp_all; done) | (simp_all; omega)))
  refine runs_cut 1 fun R12 hR12 => ?_
  try simp (maxSteps := 1000000) [runs, gd, step1, need, evu, un, opnds, opv, ev, cst, cst1, cstL, getT, getH, putT, onL, nxt, argT, cellsOf, PV.one, thn, inBlk, jmp, fldP, ldP, ldC, live, Cells.len, Cells.get, Cells.w, sug, ldv, bin, eqF, eq1, ops2, sh2, binv, Tk.agg, stC, apC, rdS, apS, cpC, cpS, mvL, zp, argsP, idx, fillP, toInts, chunks, mkC, ixS, ixA, oidx, slP, sl0, slA, optL, List.append, mxF, bltn, frzA, frz, frzL, frz1, pur1, Cells.pur, PV.scal, scal1, runD, rdO, PV.ids, id1, zids, ety, Eff.on, cnd, minb, and1b, ifmax, ifmin, mxv, sugI, strv, w0, w1, w2, wm1, bsA0, bsA1, List.take_succ_cons, List.take_zero, List.drop_succ_cons, List.drop_zero]
  repeat' (first | apply And.intro | intro _)
  any_goals (first | (refine Or.inl (hR12 _ ?_); clear hR12) | (first | omega | (simp only [IntKind.wrap_i64] at *; omega) | (simp_all; done) | (simp_all; omega)))
  refine runs_cut 1 fun R13 hR13 => ?_
  try simp (maxSteps := 1000000) [runs, gd, step1, need, evu, un, opnds, opv, ev, cst, cst1, cstL, getT, getH, putT, onL, nxt, argT, cellsOf, PV.one, thn, inBlk, jmp, fldP, ldP, ldC, live, Cells.len, Cells.get, Cells.w, sug, ldv, bin, eqF, eq1, ops2, sh2, binv, Tk.agg, stC, apC, rdS, apS, cpC, cpS, mvL, zp, argsP, idx, fillP, toInts, chunks, mkC, ixS, ixA, oidx, slP, sl0, slA, optL, List.append, mxF, bltn, frzA, frz, frzL, frz1, pur1, Cells.pur, PV.scal, scal1, runD, rdO, PV.ids, id1, zids, ety, Eff.on, cnd, minb, and1b, ifmax, ifmin, mxv, sugI, strv, w0, w1, w2, wm1, bsA0, bsA1, List.take_succ_cons, List.take_zero, List.drop_succ_cons, List.drop_zero]
  refine .inl ⟨_, (by have h := sput_ok [] 2 0 7 [8] (by simp) [[⟨11, 7⟩]] (by simp) (by simp) (by simp); rw [bsC1] at h; exact h), ?_⟩
  try simp (maxSteps := 1000000) [runs, gd, step1, need, evu, un, opnds, opv, ev, cst, cst1, cstL, getT, getH, putT, onL, nxt, argT, cellsOf, PV.one, thn, inBlk, jmp, fldP, ldP, ldC, live, Cells.len, Cells.get, Cells.w, sug, ldv, bin, eqF, eq1, ops2, sh2, binv, Tk.agg, stC, apC, rdS, apS, cpC, cpS, mvL, zp, argsP, idx, fillP, toInts, chunks, mkC, ixS, ixA, oidx, slP, sl0, slA, optL, List.append, mxF, bltn, frzA, frz, frzL, frz1, pur1, Cells.pur, PV.scal, scal1, runD, rdO, PV.ids, id1, zids, ety, Eff.on, cnd, minb, and1b, ifmax, ifmin, mxv, sugI, strv, w0, w1, w2, wm1, bsA0, bsA1]
  repeat' (first | apply And.intro | intro _)
  any_goals (first | (refine hR13 _ ?_; clear hR13) | (first | omega | (simp only [IntKind.wrap_i64] at *; omega) | (simp_all; done) | (simp_all; omega)))
  try simp (maxSteps := 1000000) [runs, gd, step1, need, evu, un, opnds, opv, ev, cst, cst1, cstL, getT, getH, putT, onL, nxt, argT, cellsOf, PV.one, thn, inBlk, jmp, fldP, ldP, ldC, live, Cells.len, Cells.get, Cells.w, sug, ldv, bin, eqF, eq1, ops2, sh2, binv, Tk.agg, stC, apC, rdS, apS, cpC, cpS, mvL, zp, argsP, idx, fillP, toInts, chunks, mkC, ixS, ixA, oidx, slP, sl0, slA, optL, List.append, mxF, bltn, frzA, frz, frzL, frz1, pur1, Cells.pur, PV.scal, scal1, runD, rdO, PV.ids, id1, zids, ety, Eff.on, cnd, minb, and1b, ifmax, ifmin, mxv, sugI, strv, w0, w1, w2, wm1, bsA0, bsA1, List.take_succ_cons, List.take_zero, List.drop_succ_cons, List.drop_zero]
  repeat' (first | apply And.intro | intro _)
  any_goals (first | (refine hK8 _ ?_; clear hK8) | (first | omega | (simp only [IntKind.wrap_i64] at *; omega) | (simp_all; done) | (simp_all; omega)))
  refine swp_seq fun K14 hK14 => ?_
  refine swp_region ty_ok ?_
  refine runs_cut 8 fun R15 hR15 => ?_
  try simp (maxSteps := 1000000) [runs, gd, step1, need, evu, un, opnds, opv, ev, cst, cst1, cstL, getT, getH, putT, onL, nxt, argT, cellsOf, PV.one, thn, inBlk, jmp, fldP, ldP, ldC, live, Cells.len, Cells.get, Cells.w, sug, ldv, bin, eqF, eq1, ops2, sh2, binv, Tk.agg, stC, apC, rdS, apS, cpC, cpS, mvL, zp, argsP, idx, fillP, toInts, chunks, mkC, ixS, ixA, oidx, slP, sl0, slA, optL, List.append, mxF, bltn, frzA, frz, frzL, frz1, pur1, Cells.pur, PV.scal, scal1, runD, rdO, PV.ids, id1, zids, ety, Eff.on, cnd, minb, and1b, ifmax, ifmin, mxv, sugI, strv, w0, w1, w2, wm1, bsA0, bsA1, List.take_succ_cons, List.take_zero, List.drop_succ_cons, List.drop_zero]
  repeat' (first | apply And.intro | intro _)
  any_goals (first | (refine hR15 _ ?_; clear hR15) | (first | omega | (simp only [IntKind.wrap_i64] at *; omega) | (simp_all; done) | (simp_all; omega)))
  try simp (maxSteps := 1000000) [runs, gd, step1, need, evu, un, opnds, opv, ev, cst, cst1, cstL, getT, getH, putT, onL, nxt, argT, cellsOf, PV.one, thn, inBlk, jmp, fldP, ldP, ldC, live, Cells.len, Cells.get, Cells.w, sug, ldv, bin, eqF, eq1, ops2, sh2, binv, Tk.agg, stC, apC, rdS, apS, cpC, cpS, mvL, zp, argsP, idx, fillP, toInts, chunks, mkC, ixS, ixA, oidx, slP, sl0, slA, optL, List.append, mxF, bltn, frzA, frz, frzL, frz1, pur1, Cells.pur, PV.scal, scal1, runD, rdO, PV.ids, id1, zids, ety, Eff.on, cnd, minb, and1b, ifmax, ifmin, mxv, sugI, strv, w0, w1, w2, wm1, bsA0, bsA1, List.take_succ_cons, List.take_zero, List.drop_succ_cons, List.drop_zero]
  repeat' (first | apply And.intro | intro _)
  any_goals (first | (refine hK14 _ ?_; clear hK14) | (first | omega | (simp only [IntKind.wrap_i64] at *; omega) | (simp_all; done) | (simp_all; omega)))
  refine swp_ret ?_
  simp [runs, gd, step1, need, evu, un, opnds, opv, ev, cst, cst1, cstL, getT, getH, putT, onL, nxt, argT, cellsOf, PV.one, thn, inBlk, jmp, fldP, ldP, ldC, live, Cells.len, Cells.get, Cells.w, sug, ldv, bin, eqF, eq1, ops2, sh2, binv, Tk.agg, stC, apC, rdS, apS, cpC, cpS, mvL, zp, argsP, idx, fillP, toInts, chunks, mkC, ixS, ixA, oidx, slP, sl0, slA, optL, List.append, mxF, bltn, frzA, frz, frzL, frz1, pur1, Cells.pur, PV.scal, scal1, runD, rdO, PV.ids, id1, zids, ety, Eff.on, cnd, minb, and1b, ifmax, ifmin, mxv, sugI, strv, w0, w1, w2, wm1, fnPost, Try.results27, resP, tupOf]
  exact ⟨rfl, rfl⟩

theorem sectNames_ok  : PCall Try.prog 10 [] (.bool true) := by
  refine pcall_body ty_ok Try.func10 rfl (by rfl) (by simp) ?_
  rw [Try.ntmps10]
  refine swp_seq fun K1 hK1 => ?_
  refine swp_region ty_ok ?_
  try simp (maxSteps := 1000000) [runs, gd, step1, need, evu, un, opnds, opv, ev, cst, cst1, cstL, getT, getH, putT, onL, nxt, argT, cellsOf, PV.one, thn, inBlk, jmp, fldP, ldP, ldC, live, Cells.len, Cells.get, Cells.w, sug, ldv, bin, eqF, eq1, ops2, sh2, binv, Tk.agg, stC, apC, rdS, apS, cpC, cpS, mvL, zp, argsP, idx, fillP, toInts, chunks, mkC, ixS, ixA, oidx, slP, sl0, slA, optL, List.append, mxF, bltn, frzA, frz, frzL, frz1, pur1, Cells.pur, PV.scal, scal1, runD, rdO, PV.ids, id1, zids, ety, Eff.on, cnd, minb, and1b, ifmax, ifmin, mxv, sugI, strv, w0, w1, w2, wm1, bsG0, bsG1, bsG2, bsG3, bsG4]
  repeat' (first | apply And.intro | intro _)
  any_goals (first | (refine hK1 _ ?_; clear hK1) | (first | omega | (simp only [IntKind.wrap_i64] at *; omega) | (simp_all; done) | (simp_all; omega)))
  refine swp_seq fun K2 hK2 => ?_
  refine swp_region ty_ok ?_
  refine runs_cut 1 fun R3 hR3 => ?_
  try simp (maxSteps := 1000000) [runs, gd, step1, need, evu, un, opnds, opv, ev, cst, cst1, cstL, getT, getH, putT, onL, nxt, argT, cellsOf, PV.one, thn, inBlk, jmp, fldP, ldP, ldC, live, Cells.len, Cells.get, Cells.w, sug, ldv, bin, eqF, eq1, ops2, sh2, binv, Tk.agg, stC, apC, rdS, apS, cpC, cpS, mvL, zp, argsP, idx, fillP, toInts, chunks, mkC, ixS, ixA, oidx, slP, sl0, slA, optL, List.append, mxF, bltn, frzA, frz, frzL, frz1, pur1, Cells.pur, PV.scal, scal1, runD, rdO, PV.ids, id1, zids, ety, Eff.on, cnd, minb, and1b, ifmax, ifmin, mxv, sugI, strv, w0, w1, w2, wm1, bsG0, bsG1, bsG2, bsG3, bsG4, List.take_succ_cons, List.take_zero, List.drop_succ_cons, List.drop_zero]
  repeat' (first | apply And.intro | intro _)
  any_goals (first | (refine Or.inl (hR3 _ ?_); clear hR3) | (first | omega | (simp only [IntKind.wrap_i64] at *; omega) | (simp_all; done) | (simp_all; omega)))
  refine runs_cut 1 fun R4 hR4 => ?_
  try simp (maxSteps := 1000000) [runs, gd, step1, need, evu, un, opnds, opv, ev, cst, cst1, cstL, getT, getH, putT, onL, nxt, argT, cellsOf, PV.one, thn, inBlk, jmp, fldP, ldP, ldC, live, Cells.len, Cells.get, Cells.w, sug, ldv, bin, eqF, eq1, ops2, sh2, binv, Tk.agg, stC, apC, rdS, apS, cpC, cpS, mvL, zp, argsP, idx, fillP, toInts, chunks, mkC, ixS, ixA, oidx, slP, sl0, slA, optL, List.append, mxF, bltn, frzA, frz, frzL, frz1, pur1, Cells.pur, PV.scal, scal1, runD, rdO, PV.ids, id1, zids, ety, Eff.on, cnd, minb, and1b, ifmax, ifmin, mxv, sugI, strv, w0, w1, w2, wm1, bsG0, bsG1, bsG2, bsG3, bsG4, List.take_succ_cons, List.take_zero, List.drop_succ_cons, List.drop_zero]
  refine .inl ⟨_, long_ok, ?_⟩
  try simp (maxSteps := 1000000) [runs, gd, step1, need, evu, un, opnds, opv, ev, cst, cst1, cstL, getT, getH, putT, onL, nxt, argT, cellsOf, PV.one, thn, inBlk, jmp, fldP, ldP, ldC, live, Cells.len, Cells.get, Cells.w, sug, ldv, bin, eqF, eq1, ops2, sh2, binv, Tk.agg, stC, apC, rdS, apS, cpC, cpS, mvL, zp, argsP, idx, fillP, toInts, chunks, mkC, ixS, ixA, oidx, slP, sl0, slA, optL, List.append, mxF, bltn, frzA, frz, frzL, frz1, pur1, Cells.pur, PV.scal, scal1, runD, rdO, PV.ids, id1, zids, ety, Eff.on, cnd, minb, and1b, ifmax, ifmin, mxv, sugI, strv, w0, w1, w2, wm1, bsG0, bsG1, bsG2, bsG3, bsG4]
  repeat' (first | apply And.intro | intro _)
  any_goals (first | (refine hR4 _ ?_; clear hR4) | (first | omega | (simp only [IntKind.wrap_i64] at *; omega) | (simp_all; done) | (simp_all; omega)))
  refine runs_cut 1 fun R5 hR5 => ?_
  try simp (maxSteps := 1000000) [runs, gd, step1, need, evu, un, opnds, opv, ev, cst, cst1, cstL, getT, getH, putT, onL, nxt, argT, cellsOf, PV.one, thn, inBlk, jmp, fldP, ldP, ldC, live, Cells.len, Cells.get, Cells.w, sug, ldv, bin, eqF, eq1, ops2, sh2, binv, Tk.agg, stC, apC, rdS, apS, cpC, cpS, mvL, zp, argsP, idx, fillP, toInts, chunks, mkC, ixS, ixA, oidx, slP, sl0, slA, optL, List.append, mxF, bltn, frzA, frz, frzL, frz1, pur1, Cells.pur, PV.scal, scal1, runD, rdO, PV.ids, id1, zids, ety, Eff.on, cnd, minb, and1b, ifmax, ifmin, mxv, sugI, strv, w0, w1, w2, wm1, bsG0, bsG1, bsG2, bsG3, bsG4, List.take_succ_cons, List.take_zero, List.drop_succ_cons, List.drop_zero]
  refine .inl ⟨_, sget_ok [0, 0, 1, 0, 0, 0, 1, 0, 0] 0 0 0 3 [1] (by simp) (by simp) (by simp) (by omega), ?_⟩
  try simp (maxSteps := 1000000) [runs, gd, step1, need, evu, un, opnds, opv, ev, cst, cst1, cstL, getT, getH, putT, onL, nxt, argT, cellsOf, PV.one, thn, inBlk, jmp, fldP, ldP, ldC, live, Cells.len, Cells.get, Cells.w, sug, ldv, bin, eqF, eq1, ops2, sh2, binv, Tk.agg, stC, apC, rdS, apS, cpC, cpS, mvL, zp, argsP, idx, fillP, toInts, chunks, mkC, ixS, ixA, oidx, slP, sl0, slA, optL, List.append, mxF, bltn, frzA, frz, frzL, frz1, pur1, Cells.pur, PV.scal, scal1, runD, rdO, PV.ids, id1, zids, ety, Eff.on, cnd, minb, and1b, ifmax, ifmin, mxv, sugI, strv, w0, w1, w2, wm1, bsG0, bsG1, bsG2, bsG3, bsG4]
  repeat' (first | apply And.intro | intro _)
  any_goals (first | (refine hR5 _ ?_; clear hR5) | (first | omega | (simp only [IntKind.wrap_i64] at *; omega) | (simp_all; done) | (simp_all; omega)))
  try simp (maxSteps := 1000000) [runs, gd, step1, need, evu, un, opnds, opv, ev, cst, cst1, cstL, getT, getH, putT, onL, nxt, argT, cellsOf, PV.one, thn, inBlk, jmp, fldP, ldP, ldC, live, Cells.len, Cells.get, Cells.w, sug, ldv, bin, eqF, eq1, ops2, sh2, binv, Tk.agg, stC, apC, rdS, apS, cpC, cpS, mvL, zp, argsP, idx, fillP, toInts, chunks, mkC, ixS, ixA, oidx, slP, sl0, slA, optL, List.append, mxF, bltn, frzA, frz, frzL, frz1, pur1, Cells.pur, PV.scal, scal1, runD, rdO, PV.ids, id1, zids, ety, Eff.on, cnd, minb, and1b, ifmax, ifmin, mxv, sugI, strv, w0, w1, w2, wm1, bsG0, bsG1, bsG2, bsG3, bsG4, List.take_succ_cons, List.take_zero, List.drop_succ_cons, List.drop_zero]
  repeat' (first | apply And.intro | intro _)
  any_goals (first | (refine hK2 _ ?_; clear hK2) | (first | omega | (simp only [IntKind.wrap_i64] at *; omega) | (simp_all; done) | (simp_all; omega)))
  refine swp_seq fun K6 hK6 => ?_
  refine swp_region ty_ok ?_
  refine runs_cut 1 fun R7 hR7 => ?_
  try simp (maxSteps := 1000000) [runs, gd, step1, need, evu, un, opnds, opv, ev, cst, cst1, cstL, getT, getH, putT, onL, nxt, argT, cellsOf, PV.one, thn, inBlk, jmp, fldP, ldP, ldC, live, Cells.len, Cells.get, Cells.w, sug, ldv, bin, eqF, eq1, ops2, sh2, binv, Tk.agg, stC, apC, rdS, apS, cpC, cpS, mvL, zp, argsP, idx, fillP, toInts, chunks, mkC, ixS, ixA, oidx, slP, sl0, slA, optL, List.append, mxF, bltn, frzA, frz, frzL, frz1, pur1, Cells.pur, PV.scal, scal1, runD, rdO, PV.ids, id1, zids, ety, Eff.on, cnd, minb, and1b, ifmax, ifmin, mxv, sugI, strv, w0, w1, w2, wm1, bsG0, bsG1, bsG2, bsG3, bsG4, List.take_succ_cons, List.take_zero, List.drop_succ_cons, List.drop_zero]
  repeat' (first | apply And.intro | intro _)
  any_goals (first | (refine Or.inl (hR7 _ ?_); clear hR7) | (first | omega | (simp only [IntKind.wrap_i64] at *; omega) | (simp_all; done) | (simp_all; omega)))
  refine runs_cut 1 fun R8 hR8 => ?_
  try simp (maxSteps := 1000000) [runs, gd, step1, need, evu, un, opnds, opv, ev, cst, cst1, cstL, getT, getH, putT, onL, nxt, argT, cellsOf, PV.one, thn, inBlk, jmp, fldP, ldP, ldC, live, Cells.len, Cells.get, Cells.w, sug, ldv, bin, eqF, eq1, ops2, sh2, binv, Tk.agg, stC, apC, rdS, apS, cpC, cpS, mvL, zp, argsP, idx, fillP, toInts, chunks, mkC, ixS, ixA, oidx, slP, sl0, slA, optL, List.append, mxF, bltn, frzA, frz, frzL, frz1, pur1, Cells.pur, PV.scal, scal1, runD, rdO, PV.ids, id1, zids, ety, Eff.on, cnd, minb, and1b, ifmax, ifmin, mxv, sugI, strv, w0, w1, w2, wm1, bsG0, bsG1, bsG2, bsG3, bsG4, List.take_succ_cons, List.take_zero, List.drop_succ_cons, List.drop_zero]
  refine .inl ⟨_, long_ok, ?_⟩
  try simp (maxSteps := 1000000) [runs, gd, step1, need, evu, un, opnds, opv, ev, cst, cst1, cstL, getT, getH, putT, onL, nxt, argT, cellsOf, PV.one, thn, inBlk, jmp, fldP, ldP, ldC, live, Cells.len, Cells.get, Cells.w, sug, ldv, bin, eqF, eq1, ops2, sh2, binv, Tk.agg, stC, apC, rdS, apS, cpC, cpS, mvL, zp, argsP, idx, fillP, toInts, chunks, mkC, ixS, ixA, oidx, slP, sl0, slA, optL, List.append, mxF, bltn, frzA, frz, frzL, frz1, pur1, Cells.pur, PV.scal, scal1, runD, rdO, PV.ids, id1, zids, ety, Eff.on, cnd, minb, and1b, ifmax, ifmin, mxv, sugI, strv, w0, w1, w2, wm1, bsG0, bsG1, bsG2, bsG3, bsG4]
  repeat' (first | apply And.intro | intro _)
  any_goals (first | (refine hR8 _ ?_; clear hR8) | (first | omega | (simp only [IntKind.wrap_i64] at *; omega) | (simp_all; done) | (simp_all; omega)))
  refine runs_cut 1 fun R9 hR9 => ?_
  try simp (maxSteps := 1000000) [runs, gd, step1, need, evu, un, opnds, opv, ev, cst, cst1, cstL, getT, getH, putT, onL, nxt, argT, cellsOf, PV.one, thn, inBlk, jmp, fldP, ldP, ldC, live, Cells.len, Cells.get, Cells.w, sug, ldv, bin, eqF, eq1, ops2, sh2, binv, Tk.agg, stC, apC, rdS, apS, cpC, cpS, mvL, zp, argsP, idx, fillP, toInts, chunks, mkC, ixS, ixA, oidx, slP, sl0, slA, optL, List.append, mxF, bltn, frzA, frz, frzL, frz1, pur1, Cells.pur, PV.scal, scal1, runD, rdO, PV.ids, id1, zids, ety, Eff.on, cnd, minb, and1b, ifmax, ifmin, mxv, sugI, strv, w0, w1, w2, wm1, bsG0, bsG1, bsG2, bsG3, bsG4, List.take_succ_cons, List.take_zero, List.drop_succ_cons, List.drop_zero]
  refine .inl ⟨_, sget_ok [0, 0, 1, 0, 0, 0, 0, 0, 0] 0 0 0 3 [1] (by simp) (by simp) (by simp) (by omega), ?_⟩
  try simp (maxSteps := 1000000) [runs, gd, step1, need, evu, un, opnds, opv, ev, cst, cst1, cstL, getT, getH, putT, onL, nxt, argT, cellsOf, PV.one, thn, inBlk, jmp, fldP, ldP, ldC, live, Cells.len, Cells.get, Cells.w, sug, ldv, bin, eqF, eq1, ops2, sh2, binv, Tk.agg, stC, apC, rdS, apS, cpC, cpS, mvL, zp, argsP, idx, fillP, toInts, chunks, mkC, ixS, ixA, oidx, slP, sl0, slA, optL, List.append, mxF, bltn, frzA, frz, frzL, frz1, pur1, Cells.pur, PV.scal, scal1, runD, rdO, PV.ids, id1, zids, ety, Eff.on, cnd, minb, and1b, ifmax, ifmin, mxv, sugI, strv, w0, w1, w2, wm1, bsG0, bsG1, bsG2, bsG3, bsG4]
  repeat' (first | apply And.intro | intro _)
  any_goals (first | (refine hR9 _ ?_; clear hR9) | (first | omega | (simp only [IntKind.wrap_i64] at *; omega) | (simp_all; done) | (simp_all; omega)))
  try simp (maxSteps := 1000000) [runs, gd, step1, need, evu, un, opnds, opv, ev, cst, cst1, cstL, getT, getH, putT, onL, nxt, argT, cellsOf, PV.one, thn, inBlk, jmp, fldP, ldP, ldC, live, Cells.len, Cells.get, Cells.w, sug, ldv, bin, eqF, eq1, ops2, sh2, binv, Tk.agg, stC, apC, rdS, apS, cpC, cpS, mvL, zp, argsP, idx, fillP, toInts, chunks, mkC, ixS, ixA, oidx, slP, sl0, slA, optL, List.append, mxF, bltn, frzA, frz, frzL, frz1, pur1, Cells.pur, PV.scal, scal1, runD, rdO, PV.ids, id1, zids, ety, Eff.on, cnd, minb, and1b, ifmax, ifmin, mxv, sugI, strv, w0, w1, w2, wm1, bsG0, bsG1, bsG2, bsG3, bsG4, List.take_succ_cons, List.take_zero, List.drop_succ_cons, List.drop_zero]
  repeat' (first | apply And.intro | intro _)
  any_goals (first | (refine hK6 _ ?_; clear hK6) | (first | omega | (simp only [IntKind.wrap_i64] at *; omega) | (simp_all; done) | (simp_all; omega)))
  refine swp_seq fun K10 hK10 => ?_
  refine swp_region ty_ok ?_
  refine runs_cut 1 fun R11 hR11 => ?_
  try simp (maxSteps := 1000000) [runs, gd, step1, need, evu, un, opnds, opv, ev, cst, cst1, cstL, getT, getH, putT, onL, nxt, argT, cellsOf, PV.one, thn, inBlk, jmp, fldP, ldP, ldC, live, Cells.len, Cells.get, Cells.w, sug, ldv, bin, eqF, eq1, ops2, sh2, binv, Tk.agg, stC, apC, rdS, apS, cpC, cpS, mvL, zp, argsP, idx, fillP, toInts, chunks, mkC, ixS, ixA, oidx, slP, sl0, slA, optL, List.append, mxF, bltn, frzA, frz, frzL, frz1, pur1, Cells.pur, PV.scal, scal1, runD, rdO, PV.ids, id1, zids, ety, Eff.on, cnd, minb, and1b, ifmax, ifmin, mxv, sugI, strv, w0, w1, w2, wm1, bsG0, bsG1, bsG2, bsG3, bsG4, List.take_succ_cons, List.take_zero, List.drop_succ_cons, List.drop_zero]
  repeat' (first | apply And.intro | intro _)
  any_goals (first | (refine Or.inl (hR11 _ ?_); clear hR11) | (first | omega | (simp only [IntKind.wrap_i64] at *; omega) | (simp_all; done) | (simp_all; omega)))
  refine runs_cut 1 fun R12 hR12 => ?_
  try simp (maxSteps := 1000000) [runs, gd, step1, need, evu, un, opnds, opv, ev, cst, cst1, cstL, getT, getH, putT, onL, nxt, argT, cellsOf, PV.one, thn, inBlk, jmp, fldP, ldP, ldC, live, Cells.len, Cells.get, Cells.w, sug, ldv, bin, eqF, eq1, ops2, sh2, binv, Tk.agg, stC, apC, rdS, apS, cpC, cpS, mvL, zp, argsP, idx, fillP, toInts, chunks, mkC, ixS, ixA, oidx, slP, sl0, slA, optL, List.append, mxF, bltn, frzA, frz, frzL, frz1, pur1, Cells.pur, PV.scal, scal1, runD, rdO, PV.ids, id1, zids, ety, Eff.on, cnd, minb, and1b, ifmax, ifmin, mxv, sugI, strv, w0, w1, w2, wm1, bsG0, bsG1, bsG2, bsG3, bsG4, List.take_succ_cons, List.take_zero, List.drop_succ_cons, List.drop_zero]
  refine .inl ⟨_, long_ok, ?_⟩
  try simp (maxSteps := 1000000) [runs, gd, step1, need, evu, un, opnds, opv, ev, cst, cst1, cstL, getT, getH, putT, onL, nxt, argT, cellsOf, PV.one, thn, inBlk, jmp, fldP, ldP, ldC, live, Cells.len, Cells.get, Cells.w, sug, ldv, bin, eqF, eq1, ops2, sh2, binv, Tk.agg, stC, apC, rdS, apS, cpC, cpS, mvL, zp, argsP, idx, fillP, toInts, chunks, mkC, ixS, ixA, oidx, slP, sl0, slA, optL, List.append, mxF, bltn, frzA, frz, frzL, frz1, pur1, Cells.pur, PV.scal, scal1, runD, rdO, PV.ids, id1, zids, ety, Eff.on, cnd, minb, and1b, ifmax, ifmin, mxv, sugI, strv, w0, w1, w2, wm1, bsG0, bsG1, bsG2, bsG3, bsG4]
  repeat' (first | apply And.intro | intro _)
  any_goals (first | (refine hR12 _ ?_; clear hR12) | (first | omega | (simp only [IntKind.wrap_i64] at *; omega) | (simp_all; done) | (simp_all; omega)))
  refine runs_cut 1 fun R13 hR13 => ?_
  try simp (maxSteps := 1000000) [runs, gd, step1, need, evu, un, opnds, opv, ev, cst, cst1, cstL, getT, getH, putT, onL, nxt, argT, cellsOf, PV.one, thn, inBlk, jmp, fldP, ldP, ldC, live, Cells.len, Cells.get, Cells.w, sug, ldv, bin, eqF, eq1, ops2, sh2, binv, Tk.agg, stC, apC, rdS, apS, cpC, cpS, mvL, zp, argsP, idx, fillP, toInts, chunks, mkC, ixS, ixA, oidx, slP, sl0, slA, optL, List.append, mxF, bltn, frzA, frz, frzL, frz1, pur1, Cells.pur, PV.scal, scal1, runD, rdO, PV.ids, id1, zids, ety, Eff.on, cnd, minb, and1b, ifmax, ifmin, mxv, sugI, strv, w0, w1, w2, wm1, bsG0, bsG1, bsG2, bsG3, bsG4, List.take_succ_cons, List.take_zero, List.drop_succ_cons, List.drop_zero]
  refine .inl ⟨_, sget_ok [1, 1, 0, 0, 0, 0, 0, 1, 1] 0 0 0 3 [1] (by simp) (by simp) (by simp) (by omega), ?_⟩
  try simp (maxSteps := 1000000) [runs, gd, step1, need, evu, un, opnds, opv, ev, cst, cst1, cstL, getT, getH, putT, onL, nxt, argT, cellsOf, PV.one, thn, inBlk, jmp, fldP, ldP, ldC, live, Cells.len, Cells.get, Cells.w, sug, ldv, bin, eqF, eq1, ops2, sh2, binv, Tk.agg, stC, apC, rdS, apS, cpC, cpS, mvL, zp, argsP, idx, fillP, toInts, chunks, mkC, ixS, ixA, oidx, slP, sl0, slA, optL, List.append, mxF, bltn, frzA, frz, frzL, frz1, pur1, Cells.pur, PV.scal, scal1, runD, rdO, PV.ids, id1, zids, ety, Eff.on, cnd, minb, and1b, ifmax, ifmin, mxv, sugI, strv, w0, w1, w2, wm1, bsG0, bsG1, bsG2, bsG3, bsG4]
  repeat' (first | apply And.intro | intro _)
  any_goals (first | (refine hR13 _ ?_; clear hR13) | (first | omega | (simp only [IntKind.wrap_i64] at *; omega) | (simp_all; done) | (simp_all; omega)))
  try simp (maxSteps := 1000000) [runs, gd, step1, need, evu, un, opnds, opv, ev, cst, cst1, cstL, getT, getH, putT, onL, nxt, argT, cellsOf, PV.one, thn, inBlk, jmp, fldP, ldP, ldC, live, Cells.len, Cells.get, Cells.w, sug, ldv, bin, eqF, eq1, ops2, sh2, binv, Tk.agg, stC, apC, rdS, apS, cpC, cpS, mvL, zp, argsP, idx, fillP, toInts, chunks, mkC, ixS, ixA, oidx, slP, sl0, slA, optL, List.append, mxF, bltn, frzA, frz, frzL, frz1, pur1, Cells.pur, PV.scal, scal1, runD, rdO, PV.ids, id1, zids, ety, Eff.on, cnd, minb, and1b, ifmax, ifmin, mxv, sugI, strv, w0, w1, w2, wm1, bsG0, bsG1, bsG2, bsG3, bsG4, List.take_succ_cons, List.take_zero, List.drop_succ_cons, List.drop_zero]
  repeat' (first | apply And.intro | intro _)
  any_goals (first | (refine hK10 _ ?_; clear hK10) | (first | omega | (simp only [IntKind.wrap_i64] at *; omega) | (simp_all; done) | (simp_all; omega)))
  refine swp_seq fun K14 hK14 => ?_
  refine swp_region ty_ok ?_
  refine runs_cut 1 fun R15 hR15 => ?_
  try simp (maxSteps := 1000000) [runs, gd, step1, need, evu, un, opnds, opv, ev, cst, cst1, cstL, getT, getH, putT, onL, nxt, argT, cellsOf, PV.one, thn, inBlk, jmp, fldP, ldP, ldC, live, Cells.len, Cells.get, Cells.w, sug, ldv, bin, eqF, eq1, ops2, sh2, binv, Tk.agg, stC, apC, rdS, apS, cpC, cpS, mvL, zp, argsP, idx, fillP, toInts, chunks, mkC, ixS, ixA, oidx, slP, sl0, slA, optL, List.append, mxF, bltn, frzA, frz, frzL, frz1, pur1, Cells.pur, PV.scal, scal1, runD, rdO, PV.ids, id1, zids, ety, Eff.on, cnd, minb, and1b, ifmax, ifmin, mxv, sugI, strv, w0, w1, w2, wm1, bsG0, bsG1, bsG2, bsG3, bsG4, List.take_succ_cons, List.take_zero, List.drop_succ_cons, List.drop_zero]
  refine .inl ⟨_, long_ok, ?_⟩
  try simp (maxSteps := 1000000) [runs, gd, step1, need, evu, un, opnds, opv, ev, cst, cst1, cstL, getT, getH, putT, onL, nxt, argT, cellsOf, PV.one, thn, inBlk, jmp, fldP, ldP, ldC, live, Cells.len, Cells.get, Cells.w, sug, ldv, bin, eqF, eq1, ops2, sh2, binv, Tk.agg, stC, apC, rdS, apS, cpC, cpS, mvL, zp, argsP, idx, fillP, toInts, chunks, mkC, ixS, ixA, oidx, slP, sl0, slA, optL, List.append, mxF, bltn, frzA, frz, frzL, frz1, pur1, Cells.pur, PV.scal, scal1, runD, rdO, PV.ids, id1, zids, ety, Eff.on, cnd, minb, and1b, ifmax, ifmin, mxv, sugI, strv, w0, w1, w2, wm1, bsG0, bsG1, bsG2, bsG3, bsG4]
  repeat' (first | apply And.intro | intro _)
  any_goals (first | (refine hR15 _ ?_; clear hR15) | (first | omega | (simp only [IntKind.wrap_i64] at *; omega) | (simp_all; done) | (simp_all; omega)))
  refine runs_cut 1 fun R16 hR16 => ?_
  try simp (maxSteps := 1000000) [runs, gd, step1, need, evu, un, opnds, opv, ev, cst, cst1, cstL, getT, getH, putT, onL, nxt, argT, cellsOf, PV.one, thn, inBlk, jmp, fldP, ldP, ldC, live, Cells.len, Cells.get, Cells.w, sug, ldv, bin, eqF, eq1, ops2, sh2, binv, Tk.agg, stC, apC, rdS, apS, cpC, cpS, mvL, zp, argsP, idx, fillP, toInts, chunks, mkC, ixS, ixA, oidx, slP, sl0, slA, optL, List.append, mxF, bltn, frzA, frz, frzL, frz1, pur1, Cells.pur, PV.scal, scal1, runD, rdO, PV.ids, id1, zids, ety, Eff.on, cnd, minb, and1b, ifmax, ifmin, mxv, sugI, strv, w0, w1, w2, wm1, bsG0, bsG1, bsG2, bsG3, bsG4, List.take_succ_cons, List.take_zero, List.drop_succ_cons, List.drop_zero]
  refine .inl ⟨_, sget_ok [] 0 0 0 3 [1] (by simp) (by simp) (by simp) (by omega), ?_⟩
  try simp (maxSteps := 1000000) [runs, gd, step1, need, evu, un, opnds, opv, ev, cst, cst1, cstL, getT, getH, putT, onL, nxt, argT, cellsOf, PV.one, thn, inBlk, jmp, fldP, ldP, ldC, live, Cells.len, Cells.get, Cells.w, sug, ldv, bin, eqF, eq1, ops2, sh2, binv, Tk.agg, stC, apC, rdS, apS, cpC, cpS, mvL, zp, argsP, idx, fillP, toInts, chunks, mkC, ixS, ixA, oidx, slP, sl0, slA, optL, List.append, mxF, bltn, frzA, frz, frzL, frz1, pur1, Cells.pur, PV.scal, scal1, runD, rdO, PV.ids, id1, zids, ety, Eff.on, cnd, minb, and1b, ifmax, ifmin, mxv, sugI, strv, w0, w1, w2, wm1, bsG0, bsG1, bsG2, bsG3, bsG4]
  repeat' (first | apply And.intro | intro _)
  any_goals (first | (refine hR16 _ ?_; clear hR16) | (first | omega | (simp only [IntKind.wrap_i64] at *; omega) | (simp_all; done) | (simp_all; omega)))
  try simp (maxSteps := 1000000) [runs, gd, step1, need, evu, un, opnds, opv, ev, cst, cst1, cstL, getT, getH, putT, onL, nxt, argT, cellsOf, PV.one, thn, inBlk, jmp, fldP, ldP, ldC, live, Cells.len, Cells.get, Cells.w, sug, ldv, bin, eqF, eq1, ops2, sh2, binv, Tk.agg, stC, apC, rdS, apS, cpC, cpS, mvL, zp, argsP, idx, fillP, toInts, chunks, mkC, ixS, ixA, oidx, slP, sl0, slA, optL, List.append, mxF, bltn, frzA, frz, frzL, frz1, pur1, Cells.pur, PV.scal, scal1, runD, rdO, PV.ids, id1, zids, ety, Eff.on, cnd, minb, and1b, ifmax, ifmin, mxv, sugI, strv, w0, w1, w2, wm1, bsG0, bsG1, bsG2, bsG3, bsG4, List.take_succ_cons, List.take_zero, List.drop_succ_cons, List.drop_zero]
  repeat' (first | apply And.intro | intro _)
  any_goals (first | (refine hK14 _ ?_; clear hK14) | (first | omega | (simp only [IntKind.wrap_i64] at *; omega) | (simp_all; done) | (simp_all; omega)))
  refine swp_seq fun K17 hK17 => ?_
  refine swp_region ty_ok ?_
  refine runs_cut 1 fun R18 hR18 => ?_
  try simp (maxSteps := 1000000) [runs, gd, step1, need, evu, un, opnds, opv, ev, cst, cst1, cstL, getT, getH, putT, onL, nxt, argT, cellsOf, PV.one, thn, inBlk, jmp, fldP, ldP, ldC, live, Cells.len, Cells.get, Cells.w, sug, ldv, bin, eqF, eq1, ops2, sh2, binv, Tk.agg, stC, apC, rdS, apS, cpC, cpS, mvL, zp, argsP, idx, fillP, toInts, chunks, mkC, ixS, ixA, oidx, slP, sl0, slA, optL, List.append, mxF, bltn, frzA, frz, frzL, frz1, pur1, Cells.pur, PV.scal, scal1, runD, rdO, PV.ids, id1, zids, ety, Eff.on, cnd, minb, and1b, ifmax, ifmin, mxv, sugI, strv, w0, w1, w2, wm1, bsG0, bsG1, bsG2, bsG3, bsG4, List.take_succ_cons, List.take_zero, List.drop_succ_cons, List.drop_zero]
  repeat' (first | apply And.intro | intro _)
  any_goals (first | (refine hR18 _ ?_; clear hR18) | (first | omega | (simp only [IntKind.wrap_i64] at *; omega) | (simp_all; done) | (simp_all; omega)))
  refine runs_cut 1 fun R19 hR19 => ?_
  try simp (maxSteps := 1000000) [runs, gd, step1, need, evu, un, opnds, opv, ev, cst, cst1, cstL, getT, getH, putT, onL, nxt, argT, cellsOf, PV.one, thn, inBlk, jmp, fldP, ldP, ldC, live, Cells.len, Cells.get, Cells.w, sug, ldv, bin, eqF, eq1, ops2, sh2, binv, Tk.agg, stC, apC, rdS, apS, cpC, cpS, mvL, zp, argsP, idx, fillP, toInts, chunks, mkC, ixS, ixA, oidx, slP, sl0, slA, optL, List.append, mxF, bltn, frzA, frz, frzL, frz1, pur1, Cells.pur, PV.scal, scal1, runD, rdO, PV.ids, id1, zids, ety, Eff.on, cnd, minb, and1b, ifmax, ifmin, mxv, sugI, strv, w0, w1, w2, wm1, bsG0, bsG1, bsG2, bsG3, bsG4, List.take_succ_cons, List.take_zero, List.drop_succ_cons, List.drop_zero]
  refine .inl ⟨_, sget_ok [] 0 0 0 0 [] (by simp) (by simp) (by simp) (by omega), ?_⟩
  try simp (maxSteps := 1000000) [runs, gd, step1, need, evu, un, opnds, opv, ev, cst, cst1, cstL, getT, getH, putT, onL, nxt, argT, cellsOf, PV.one, thn, inBlk, jmp, fldP, ldP, ldC, live, Cells.len, Cells.get, Cells.w, sug, ldv, bin, eqF, eq1, ops2, sh2, binv, Tk.agg, stC, apC, rdS, apS, cpC, cpS, mvL, zp, argsP, idx, fillP, toInts, chunks, mkC, ixS, ixA, oidx, slP, sl0, slA, optL, List.append, mxF, bltn, frzA, frz, frzL, frz1, pur1, Cells.pur, PV.scal, scal1, runD, rdO, PV.ids, id1, zids, ety, Eff.on, cnd, minb, and1b, ifmax, ifmin, mxv, sugI, strv, w0, w1, w2, wm1, bsG0, bsG1, bsG2, bsG3, bsG4]
  repeat' (first | apply And.intro | intro _)
  any_goals (first | (refine hR19 _ ?_; clear hR19) | (first | omega | (simp only [IntKind.wrap_i64] at *; omega) | (simp_all; done) | (simp_all; omega)))
  try simp (maxSteps := 1000000) [runs, gd, step1, need, evu, un, opnds, opv, ev, cst, cst1, cstL, getT, getH, putT, onL, nxt, argT, cellsOf, PV.one, thn, inBlk, jmp, fldP, ldP, ldC, live, Cells.len, Cells.get, Cells.w, sug, ldv, bin, eqF, eq1, ops2, sh2, binv, Tk.agg, stC, apC, rdS, apS, cpC, cpS, mvL, zp, argsP, idx, fillP, toInts, chunks, mkC, ixS, ixA, oidx, slP, sl0, slA, optL, List.append, mxF, bltn, frzA, frz, frzL, frz1, pur1, Cells.pur, PV.scal, scal1, runD, rdO, PV.ids, id1, zids, ety, Eff.on, cnd, minb, and1b, ifmax, ifmin, mxv, sugI, strv, w0, w1, w2, wm1, bsG0, bsG1, bsG2, bsG3, bsG4, List.take_succ_cons, List.take_zero, List.drop_succ_cons, List.drop_zero]
  repeat' (first | apply And.intro | intro _)
  any_goals (first | (refine hK17 _ ?_; clear hK17) | (first | omega | (simp only [IntKind.wrap_i64] at *; omega) | (simp_all; done) | (simp_all; omega)))
  refine swp_seq fun K20 hK20 => ?_
  refine swp_region ty_ok ?_
  refine runs_cut 1 fun R21 hR21 => ?_
  try simp (maxSteps := 1000000) [runs, gd, step1, need, evu, un, opnds, opv, ev, cst, cst1, cstL, getT, getH, putT, onL, nxt, argT, cellsOf, PV.one, thn, inBlk, jmp, fldP, ldP, ldC, live, Cells.len, Cells.get, Cells.w, sug, ldv, bin, eqF, eq1, ops2, sh2, binv, Tk.agg, stC, apC, rdS, apS, cpC, cpS, mvL, zp, argsP, idx, fillP, toInts, chunks, mkC, ixS, ixA, oidx, slP, sl0, slA, optL, List.append, mxF, bltn, frzA, frz, frzL, frz1, pur1, Cells.pur, PV.scal, scal1, runD, rdO, PV.ids, id1, zids, ety, Eff.on, cnd, minb, and1b, ifmax, ifmin, mxv, sugI, strv, w0, w1, w2, wm1, bsG0, bsG1, bsG2, bsG3, bsG4, List.take_succ_cons, List.take_zero, List.drop_succ_cons, List.drop_zero]
  refine .inl ⟨_, alive19, ?_⟩
  try simp (maxSteps := 1000000) [runs, gd, step1, need, evu, un, opnds, opv, ev, cst, cst1, cstL, getT, getH, putT, onL, nxt, argT, cellsOf, PV.one, thn, inBlk, jmp, fldP, ldP, ldC, live, Cells.len, Cells.get, Cells.w, sug, ldv, bin, eqF, eq1, ops2, sh2, binv, Tk.agg, stC, apC, rdS, apS, cpC, cpS, mvL, zp, argsP, idx, fillP, toInts, chunks, mkC, ixS, ixA, oidx, slP, sl0, slA, optL, List.append, mxF, bltn, frzA, frz, frzL, frz1, pur1, Cells.pur, PV.scal, scal1, runD, rdO, PV.ids, id1, zids, ety, Eff.on, cnd, minb, and1b, ifmax, ifmin, mxv, sugI, strv, w0, w1, w2, wm1, bsG0, bsG1, bsG2, bsG3, bsG4]
  repeat' (first | apply And.intro | intro _)
  any_goals (first | (refine hR21 _ ?_; clear hR21) | (first | omega | (simp only [IntKind.wrap_i64] at *; omega) | (simp_all; done) | (simp_all; omega)))
  refine runs_cut 10 fun R22 hR22 => ?_
  try simp (maxSteps := 1000000) [runs, gd, step1, need, evu, un, opnds, opv, ev, cst, cst1, cstL, getT, getH, putT, onL, nxt, argT, cellsOf, PV.one, thn, inBlk, jmp, fldP, ldP, ldC, live, Cells.len, Cells.get, Cells.w, sug, ldv, bin, eqF, eq1, ops2, sh2, binv, Tk.agg, stC, apC, rdS, apS, cpC, cpS, mvL, zp, argsP, idx, fillP, toInts, chunks, mkC, ixS, ixA, oidx, slP, sl0, slA, optL, List.append, mxF, bltn, frzA, frz, frzL, frz1, pur1, Cells.pur, PV.scal, scal1, runD, rdO, PV.ids, id1, zids, ety, Eff.on, cnd, minb, and1b, ifmax, ifmin, mxv, sugI, strv, w0, w1, w2, wm1, bsG0, bsG1, bsG2, bsG3, bsG4, List.take_succ_cons, List.take_zero, List.drop_succ_cons, List.drop_zero]
  repeat' (first | apply And.intro | intro _)
  any_goals (first | (refine hR22 _ ?_; clear hR22) | (first | omega | (simp only [IntKind.wrap_i64] at *; omega) | (simp_all; done) | (simp_all; omega)))
  try simp (maxSteps := 1000000) [runs, gd, step1, need, evu, un, opnds, opv, ev, cst, cst1, cstL, getT, getH, putT, onL, nxt, argT, cellsOf, PV.one, thn, inBlk, jmp, fldP, ldP, ldC, live, Cells.len, Cells.get, Cells.w, sug, ldv, bin, eqF, eq1, ops2, sh2, binv, Tk.agg, stC, apC, rdS, apS, cpC, cpS, mvL, zp, argsP, idx, fillP, toInts, chunks, mkC, ixS, ixA, oidx, slP, sl0, slA, optL, List.append, mxF, bltn, frzA, frz, frzL, frz1, pur1, Cells.pur, PV.scal, scal1, runD, rdO, PV.ids, id1, zids, ety, Eff.on, cnd, minb, and1b, ifmax, ifmin, mxv, sugI, strv, w0, w1, w2, wm1, bsG0, bsG1, bsG2, bsG3, bsG4, List.take_succ_cons, List.take_zero, List.drop_succ_cons, List.drop_zero]
  repeat' (first | apply And.intro | intro _)
  any_goals (first | (refine hK20 _ ?_; clear hK20) | (first | omega | (simp only [IntKind.wrap_i64] at *; omega) | (simp_all; done) | (simp_all; omega)))
  refine swp_ret ?_
  simp [runs, gd, step1, need, evu, un, opnds, opv, ev, cst, cst1, cstL, getT, getH, putT, onL, nxt, argT, cellsOf, PV.one, thn, inBlk, jmp, fldP, ldP, ldC, live, Cells.len, Cells.get, Cells.w, sug, ldv, bin, eqF, eq1, ops2, sh2, binv, Tk.agg, stC, apC, rdS, apS, cpC, cpS, mvL, zp, argsP, idx, fillP, toInts, chunks, mkC, ixS, ixA, oidx, slP, sl0, slA, optL, List.append, mxF, bltn, frzA, frz, frzL, frz1, pur1, Cells.pur, PV.scal, scal1, runD, rdO, PV.ids, id1, zids, ety, Eff.on, cnd, minb, and1b, ifmax, ifmin, mxv, sugI, strv, w0, w1, w2, wm1, fnPost, Try.results10, resP, tupOf]

end Go.Proofs.Ytkhjiabenifplaa

