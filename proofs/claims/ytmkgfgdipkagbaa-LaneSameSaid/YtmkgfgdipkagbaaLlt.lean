import Derived.Test.YtmkgfgdipkagbaaWf
import Derived.Test.YtmkgfgdipkagbaaLltc
namespace Go.Proofs.Ytmkgfgdipkagbaa
set_option linter.unusedVariables false
set_option linter.unusedSimpArgs false
set_option maxRecDepth 10000
open Go Go.Pv
open Go.RowKit

theorem shp_flat2 (w : List Sc) : Sh 35 3 (.old 38 (.rows 2 (w.map Sc.row))) := .old _ _ (by decide) fun i j hi hj => by
  have hi : i < w.length := by simpa [Cells.len] using hi
  have hj : j < 2 := hj
  simp only [Cells.get, List.getD_eq_getElem?_getD, List.getElem?_map, List.getElem?_eq_getElem hi]
  match j, hj with
  | 0, _ => exact Sh.int _ _
  | 1, _ => exact Sh.int _ _
theorem shp_se (se : List (List Sc)) : Sh 35 3 (.old 36 (.rows 1 (se.map fun w => [.old 38 (.rows 2 (w.map Sc.row))]))) := .old _ _ (by decide) fun i j hi hj => by
  have hi : i < se.length := by simpa [Cells.len] using hi
  have hj : j < 1 := hj
  have : j = 0 := by omega
  subst this
  rw [get_map1 [] _ _ (fun w => .old 38 (.rows 2 (w.map Sc.row))) (fun _ => rfl) hi]
  exact shp_flat2 _
theorem shp_st (st : List (List Int)) : Sh 35 3 (.old 22 (.rows 1 (st.map fun w => [.old 3 (.ints .i64 w)]))) := .old _ _ (by decide) fun i j hi hj => by
  have hi : i < st.length := by simpa [Cells.len] using hi
  have hj : j < 1 := hj
  have : j = 0 := by omega
  subst this
  rw [get_map1 [] _ _ (fun w => .old 3 (.ints .i64 w)) (fun _ => rfl) hi]
  exact .flat _ _
attribute [local simp] xruns xop evX lkV xput
set_option maxHeartbeats 8000000 in
theorem lane_twin0 (ga s sh m : Int) (g : List Int) (se : List (List Sc)) (st : List (List Int)) (tn : List (List Fl)) (ln : List Int) (hl : LenOk g se st tn) (hlx : ln.length ≤ 1000000) : HCall0 Try.prog 15 [.agg [.int .i64 ga, .int .u8 s, .int .u8 sh, .int .i64 m, .ro (.ints .i64 g), .ro (.rows 1 (se.map fun w => [.ro (.rows 2 (w.map Sc.row))])), .ro (.rows 1 (st.map fun w => [.ro (.ints .i64 w)])), .ro (.rows 1 (tn.map fun w => [.ro (.rows 5 (w.map Fl.row))])), .ro (.ints .i64 ln)]] 0
    (.agg [.int .i64 ga, .int .u8 s, .int .u8 sh, .int .i64 m, .ro (.ints .i64 g), .old 36 (.rows 1 (se.map fun w => [.old 38 (.rows 2 (w.map Sc.row))])), .old 22 (.rows 1 (st.map fun w => [.old 3 (.ints .i64 w)])), .old 33 (.rows 1 (tn.map fun w => [.old 35 (.rows 5 (w.map FlO))])), .old 3 (.ints .i64 ln)]) [] := by
  obtain ⟨⟨hl1, hl2, hl3, hl4⟩, hl5, hl6, hl7⟩ := hl
  have hse1 : se.length ≤ 1000000 := by omega
  have hst1 : st.length ≤ 1000000 := by omega
  have htn1 : tn.length ≤ 1000000 := by omega
  have hse2 : ∀ w ∈ se, w.length ≤ 1000000 := fun w hw => by have := hl5 w hw; omega
  have hst2 : ∀ w ∈ st, w.length ≤ 1000000 := fun w hw => by have := hl6 w hw; omega
  have htn2 : ∀ w ∈ tn, w.length ≤ 1000000 := fun w hw => by have := (hl7 w hw).1; omega
  refine hcall_body0 ty_ok Try.func15 rfl (by rfl) (by simp) ?_
  rw [Try.ntmps15]
  refine swp0_seq fun K1 hK1 => ?_
  refine swp_region ty_ok ?_
  try simp (maxSteps := 1000000) [runs, gd, step1, need, evu, un, opnds, opv, ev, cst, cst1, cstL, getT, getH, putT, onL, nxt, argT, cellsOf, PV.one, thn, inBlk, jmp, fldP, ldP, ldC, live, Cells.len, Cells.get, Cells.w, sug, ldv, bin, eqF, eq1, ops2, sh2, binv, Tk.agg, stC, apC, rdS, apS, cpC, cpS, mvL, zp, argsP, idx, fillP, toInts, chunks, mkC, ixS, ixA, oidx, slP, sl0, slA, optL, List.append, mxF, bltn, frzA, frz, frzL, frz1, pur1, Cells.pur, PV.scal, scal1, runD, rdO, PV.ids, id1, zids, ety, Eff.on, cnd, minb, and1b, ifmax, ifmin, mxv, sugI, strv, w0, w1, w2, wm1]
  repeat' (first | apply And.intro | intro _)
  any_goals (first | (refine hK1 _ ?_; clear hK1) | (first | omega | (simp only [IntKind.wrap_i64] at *; omega) | (simp_all; done) | (simp_all; omega)))
  refine swp0_seq fun K2 hK2 => ?_
  refine swp_draw ty_ok mixed (ms := [0, 1, 3, 0, 8, 31, 0, 64, 255, 0, 512, 2047, 0, 4096, 16383, 14047, 65535, 131071, 262143, 524287, 1048575, 2097151, 4194303, 8388607, 16777215]) (by kernel_rfl) ?_
  refine runD_cut 2 fun R3 hR3 => ?_
  try simp (maxSteps := 1000000) [runs, gd, step1, need, evu, un, opnds, opv, ev, cst, cst1, cstL, getT, getH, putT, onL, nxt, argT, cellsOf, PV.one, thn, inBlk, jmp, fldP, ldP, ldC, live, Cells.len, Cells.get, Cells.w, sug, ldv, bin, eqF, eq1, ops2, sh2, binv, Tk.agg, stC, apC, rdS, apS, cpC, cpS, mvL, zp, argsP, idx, fillP, toInts, chunks, mkC, ixS, ixA, oidx, slP, sl0, slA, optL, List.append, mxF, bltn, frzA, frz, frzL, frz1, pur1, Cells.pur, PV.scal, scal1, runD, rdO, PV.ids, id1, zids, ety, Eff.on, cnd, minb, and1b, ifmax, ifmin, mxv, sugI, strv, w0, w1, w2, wm1, List.take_succ_cons, List.take_zero, List.drop_succ_cons, List.drop_zero]
  repeat' (first | apply And.intro | intro _)
  any_goals (first | (refine hR3 _ _ _ _ ?_; clear hR3) | (first | omega | (simp only [IntKind.wrap_i64] at *; omega) | (simp_all; done) | (simp_all; omega)))
  refine runD_cut 1 fun R4 hR4 => ?_
  try simp (maxSteps := 1000000) [runs, gd, step1, need, evu, un, opnds, opv, ev, cst, cst1, cstL, getT, getH, putT, onL, nxt, argT, cellsOf, PV.one, thn, inBlk, jmp, fldP, ldP, ldC, live, Cells.len, Cells.get, Cells.w, sug, ldv, bin, eqF, eq1, ops2, sh2, binv, Tk.agg, stC, apC, rdS, apS, cpC, cpS, mvL, zp, argsP, idx, fillP, toInts, chunks, mkC, ixS, ixA, oidx, slP, sl0, slA, optL, List.append, mxF, bltn, frzA, frz, frzL, frz1, pur1, Cells.pur, PV.scal, scal1, runD, rdO, PV.ids, id1, zids, ety, Eff.on, cnd, minb, and1b, ifmax, ifmin, mxv, sugI, strv, w0, w1, w2, wm1, List.take_succ_cons, List.take_zero, List.drop_succ_cons, List.drop_zero]
  refine .inl ⟨_, twin_P s sh m g (by omega), ?_⟩
  try simp (maxSteps := 1000000) [runs, gd, step1, need, evu, un, opnds, opv, ev, cst, cst1, cstL, getT, getH, putT, onL, nxt, argT, cellsOf, PV.one, thn, inBlk, jmp, fldP, ldP, ldC, live, Cells.len, Cells.get, Cells.w, sug, ldv, bin, eqF, eq1, ops2, sh2, binv, Tk.agg, stC, apC, rdS, apS, cpC, cpS, mvL, zp, argsP, idx, fillP, toInts, chunks, mkC, ixS, ixA, oidx, slP, sl0, slA, optL, List.append, mxF, bltn, frzA, frz, frzL, frz1, pur1, Cells.pur, PV.scal, scal1, runD, rdO, PV.ids, id1, zids, ety, Eff.on, cnd, minb, and1b, ifmax, ifmin, mxv, sugI, strv, w0, w1, w2, wm1]
  repeat' (first | apply And.intro | intro _)
  any_goals (first | (refine hR4 _ _ _ _ ?_; clear hR4) | (first | omega | (simp only [IntKind.wrap_i64] at *; omega) | (simp_all; done) | (simp_all; omega)))
  refine runD_cut 2 fun R5 hR5 => ?_
  try simp (maxSteps := 1000000) [runs, gd, step1, need, evu, un, opnds, opv, ev, cst, cst1, cstL, getT, getH, putT, onL, nxt, argT, cellsOf, PV.one, thn, inBlk, jmp, fldP, ldP, ldC, live, Cells.len, Cells.get, Cells.w, sug, ldv, bin, eqF, eq1, ops2, sh2, binv, Tk.agg, stC, apC, rdS, apS, cpC, cpS, mvL, zp, argsP, idx, fillP, toInts, chunks, mkC, ixS, ixA, oidx, slP, sl0, slA, optL, List.append, mxF, bltn, frzA, frz, frzL, frz1, pur1, Cells.pur, PV.scal, scal1, runD, rdO, PV.ids, id1, zids, ety, Eff.on, cnd, minb, and1b, ifmax, ifmin, mxv, sugI, strv, w0, w1, w2, wm1, List.take_succ_cons, List.take_zero, List.drop_succ_cons, List.drop_zero]
  repeat' (first | apply And.intro | intro _)
  any_goals (first | (refine hR5 _ _ _ _ ?_; clear hR5) | (first | omega | (simp only [IntKind.wrap_i64] at *; omega) | (simp_all; done) | (simp_all; omega)))
  refine runD_cut 1 fun R6 hR6 => ?_
  try simp (maxSteps := 1000000) [runs, gd, step1, need, evu, un, opnds, opv, ev, cst, cst1, cstL, getT, getH, putT, onL, nxt, argT, cellsOf, PV.one, thn, inBlk, jmp, fldP, ldP, ldC, live, Cells.len, Cells.get, Cells.w, sug, ldv, bin, eqF, eq1, ops2, sh2, binv, Tk.agg, stC, apC, rdS, apS, cpC, cpS, mvL, zp, argsP, idx, fillP, toInts, chunks, mkC, ixS, ixA, oidx, slP, sl0, slA, optL, List.append, mxF, bltn, frzA, frz, frzL, frz1, pur1, Cells.pur, PV.scal, scal1, runD, rdO, PV.ids, id1, zids, ety, Eff.on, cnd, minb, and1b, ifmax, ifmin, mxv, sugI, strv, w0, w1, w2, wm1, List.take_succ_cons, List.take_zero, List.drop_succ_cons, List.drop_zero]
  refine .inr (hcl_mk ((twins_s se hse1 hse2).hcall rfl _) (by simp [PV.ids, id1, getH, Blk.inL, Cells.inL, inL1]) (by simp [PV.inL, inL1]) (by simp) ?_)
  try simp (maxSteps := 1000000) [runs, gd, step1, need, evu, un, opnds, opv, ev, cst, cst1, cstL, getT, getH, putT, onL, nxt, argT, cellsOf, PV.one, thn, inBlk, jmp, fldP, ldP, ldC, live, Cells.len, Cells.get, Cells.w, sug, ldv, bin, eqF, eq1, ops2, sh2, binv, Tk.agg, stC, apC, rdS, apS, cpC, cpS, mvL, zp, argsP, idx, fillP, toInts, chunks, mkC, ixS, ixA, oidx, slP, sl0, slA, optL, List.append, mxF, bltn, frzA, frz, frzL, frz1, pur1, Cells.pur, PV.scal, scal1, runD, rdO, PV.ids, id1, zids, ety, Eff.on, cnd, minb, and1b, ifmax, ifmin, mxv, sugI, strv, w0, w1, w2, wm1]
  repeat' (first | apply And.intro | intro _)
  any_goals (first | (refine hR6 _ _ _ _ ?_; clear hR6) | (first | omega | (simp only [IntKind.wrap_i64] at *; omega) | (simp_all; done) | (simp_all; omega)))
  refine runD_cut 2 fun R7 hR7 => ?_
  try simp (maxSteps := 1000000) [runs, gd, step1, need, evu, un, opnds, opv, ev, cst, cst1, cstL, getT, getH, putT, onL, nxt, argT, cellsOf, PV.one, thn, inBlk, jmp, fldP, ldP, ldC, live, Cells.len, Cells.get, Cells.w, sug, ldv, bin, eqF, eq1, ops2, sh2, binv, Tk.agg, stC, apC, rdS, apS, cpC, cpS, mvL, zp, argsP, idx, fillP, toInts, chunks, mkC, ixS, ixA, oidx, slP, sl0, slA, optL, List.append, mxF, bltn, frzA, frz, frzL, frz1, pur1, Cells.pur, PV.scal, scal1, runD, rdO, PV.ids, id1, zids, ety, Eff.on, cnd, minb, and1b, ifmax, ifmin, mxv, sugI, strv, w0, w1, w2, wm1, List.take_succ_cons, List.take_zero, List.drop_succ_cons, List.drop_zero]
  repeat' (first | apply And.intro | intro _)
  any_goals (first | (refine hR7 _ _ _ _ ?_; clear hR7) | (first | omega | (simp only [IntKind.wrap_i64] at *; omega) | (simp_all; done) | (simp_all; omega)))
  refine runD_cut 1 fun R8 hR8 => ?_
  try simp (maxSteps := 1000000) [runs, gd, step1, need, evu, un, opnds, opv, ev, cst, cst1, cstL, getT, getH, putT, onL, nxt, argT, cellsOf, PV.one, thn, inBlk, jmp, fldP, ldP, ldC, live, Cells.len, Cells.get, Cells.w, sug, ldv, bin, eqF, eq1, ops2, sh2, binv, Tk.agg, stC, apC, rdS, apS, cpC, cpS, mvL, zp, argsP, idx, fillP, toInts, chunks, mkC, ixS, ixA, oidx, slP, sl0, slA, optL, List.append, mxF, bltn, frzA, frz, frzL, frz1, pur1, Cells.pur, PV.scal, scal1, runD, rdO, PV.ids, id1, zids, ety, Eff.on, cnd, minb, and1b, ifmax, ifmin, mxv, sugI, strv, w0, w1, w2, wm1, List.take_succ_cons, List.take_zero, List.drop_succ_cons, List.drop_zero]
  refine .inr (hcl_mk ((twins_i st hst1 hst2).hcall rfl _) (by simp [PV.ids, id1, getH, Blk.inL, Cells.inL, inL1]) (by simp [PV.inL, inL1]) (by simp) ?_)
  try simp (maxSteps := 1000000) [runs, gd, step1, need, evu, un, opnds, opv, ev, cst, cst1, cstL, getT, getH, putT, onL, nxt, argT, cellsOf, PV.one, thn, inBlk, jmp, fldP, ldP, ldC, live, Cells.len, Cells.get, Cells.w, sug, ldv, bin, eqF, eq1, ops2, sh2, binv, Tk.agg, stC, apC, rdS, apS, cpC, cpS, mvL, zp, argsP, idx, fillP, toInts, chunks, mkC, ixS, ixA, oidx, slP, sl0, slA, optL, List.append, mxF, bltn, frzA, frz, frzL, frz1, pur1, Cells.pur, PV.scal, scal1, runD, rdO, PV.ids, id1, zids, ety, Eff.on, cnd, minb, and1b, ifmax, ifmin, mxv, sugI, strv, w0, w1, w2, wm1]
  repeat' (first | apply And.intro | intro _)
  any_goals (first | (refine hR8 _ _ _ _ ?_; clear hR8) | (first | omega | (simp only [IntKind.wrap_i64] at *; omega) | (simp_all; done) | (simp_all; omega)))
  refine runD_cut 2 fun R9 hR9 => ?_
  try simp (maxSteps := 1000000) [runs, gd, step1, need, evu, un, opnds, opv, ev, cst, cst1, cstL, getT, getH, putT, onL, nxt, argT, cellsOf, PV.one, thn, inBlk, jmp, fldP, ldP, ldC, live, Cells.len, Cells.get, Cells.w, sug, ldv, bin, eqF, eq1, ops2, sh2, binv, Tk.agg, stC, apC, rdS, apS, cpC, cpS, mvL, zp, argsP, idx, fillP, toInts, chunks, mkC, ixS, ixA, oidx, slP, sl0, slA, optL, List.append, mxF, bltn, frzA, frz, frzL, frz1, pur1, Cells.pur, PV.scal, scal1, runD, rdO, PV.ids, id1, zids, ety, Eff.on, cnd, minb, and1b, ifmax, ifmin, mxv, sugI, strv, w0, w1, w2, wm1, List.take_succ_cons, List.take_zero, List.drop_succ_cons, List.drop_zero]
  repeat' (first | apply And.intro | intro _)
  any_goals (first | (refine hR9 _ _ _ _ ?_; clear hR9) | (first | omega | (simp only [IntKind.wrap_i64] at *; omega) | (simp_all; done) | (simp_all; omega)))
  refine runD_cut 1 fun R10 hR10 => ?_
  try simp (maxSteps := 1000000) [runs, gd, step1, need, evu, un, opnds, opv, ev, cst, cst1, cstL, getT, getH, putT, onL, nxt, argT, cellsOf, PV.one, thn, inBlk, jmp, fldP, ldP, ldC, live, Cells.len, Cells.get, Cells.w, sug, ldv, bin, eqF, eq1, ops2, sh2, binv, Tk.agg, stC, apC, rdS, apS, cpC, cpS, mvL, zp, argsP, idx, fillP, toInts, chunks, mkC, ixS, ixA, oidx, slP, sl0, slA, optL, List.append, mxF, bltn, frzA, frz, frzL, frz1, pur1, Cells.pur, PV.scal, scal1, runD, rdO, PV.ids, id1, zids, ety, Eff.on, cnd, minb, and1b, ifmax, ifmin, mxv, sugI, strv, w0, w1, w2, wm1, List.take_succ_cons, List.take_zero, List.drop_succ_cons, List.drop_zero]
  refine .inr (hcl_mk ((twins_f tn htn1 htn2).hcall rfl _) (by simp [PV.ids, id1, getH, Blk.inL, Cells.inL, inL1]) (by simp [PV.inL, inL1]) (by simp) ?_)
  try simp (maxSteps := 1000000) [runs, gd, step1, need, evu, un, opnds, opv, ev, cst, cst1, cstL, getT, getH, putT, onL, nxt, argT, cellsOf, PV.one, thn, inBlk, jmp, fldP, ldP, ldC, live, Cells.len, Cells.get, Cells.w, sug, ldv, bin, eqF, eq1, ops2, sh2, binv, Tk.agg, stC, apC, rdS, apS, cpC, cpS, mvL, zp, argsP, idx, fillP, toInts, chunks, mkC, ixS, ixA, oidx, slP, sl0, slA, optL, List.append, mxF, bltn, frzA, frz, frzL, frz1, pur1, Cells.pur, PV.scal, scal1, runD, rdO, PV.ids, id1, zids, ety, Eff.on, cnd, minb, and1b, ifmax, ifmin, mxv, sugI, strv, w0, w1, w2, wm1]
  repeat' (first | apply And.intro | intro _)
  any_goals (first | (refine hR10 _ _ _ _ ?_; clear hR10) | (first | omega | (simp only [IntKind.wrap_i64] at *; omega) | (simp_all; done) | (simp_all; omega)))
  refine runD_cut 2 fun R11 hR11 => ?_
  try simp (maxSteps := 1000000) [runs, gd, step1, need, evu, un, opnds, opv, ev, cst, cst1, cstL, getT, getH, putT, onL, nxt, argT, cellsOf, PV.one, thn, inBlk, jmp, fldP, ldP, ldC, live, Cells.len, Cells.get, Cells.w, sug, ldv, bin, eqF, eq1, ops2, sh2, binv, Tk.agg, stC, apC, rdS, apS, cpC, cpS, mvL, zp, argsP, idx, fillP, toInts, chunks, mkC, ixS, ixA, oidx, slP, sl0, slA, optL, List.append, mxF, bltn, frzA, frz, frzL, frz1, pur1, Cells.pur, PV.scal, scal1, runD, rdO, PV.ids, id1, zids, ety, Eff.on, cnd, minb, and1b, ifmax, ifmin, mxv, sugI, strv, w0, w1, w2, wm1, List.take_succ_cons, List.take_zero, List.drop_succ_cons, List.drop_zero]
  repeat' (first | apply And.intro | intro _)
  any_goals (first | (refine hR11 _ _ _ _ ?_; clear hR11) | (first | omega | (simp only [IntKind.wrap_i64] at *; omega) | (simp_all; done) | (simp_all; omega)))
  refine runD_cut 1 fun R12 hR12 => ?_
  try simp (maxSteps := 1000000) [runs, gd, step1, need, evu, un, opnds, opv, ev, cst, cst1, cstL, getT, getH, putT, onL, nxt, argT, cellsOf, PV.one, thn, inBlk, jmp, fldP, ldP, ldC, live, Cells.len, Cells.get, Cells.w, sug, ldv, bin, eqF, eq1, ops2, sh2, binv, Tk.agg, stC, apC, rdS, apS, cpC, cpS, mvL, zp, argsP, idx, fillP, toInts, chunks, mkC, ixS, ixA, oidx, slP, sl0, slA, optL, List.append, mxF, bltn, frzA, frz, frzL, frz1, pur1, Cells.pur, PV.scal, scal1, runD, rdO, PV.ids, id1, zids, ety, Eff.on, cnd, minb, and1b, ifmax, ifmin, mxv, sugI, strv, w0, w1, w2, wm1, List.take_succ_cons, List.take_zero, List.drop_succ_cons, List.drop_zero]
  refine .inr (hcl_mk ((fcall_of_own (clone_h 0 ln (by omega)) rfl (dat_ints ln)).hcall rfl _) (by simp [PV.ids, id1, getH, Blk.inL, Cells.inL, inL1]) (by simp [PV.inL, inL1]) (by simp) ?_)
  try simp (maxSteps := 1000000) [runs, gd, step1, need, evu, un, opnds, opv, ev, cst, cst1, cstL, getT, getH, putT, onL, nxt, argT, cellsOf, PV.one, thn, inBlk, jmp, fldP, ldP, ldC, live, Cells.len, Cells.get, Cells.w, sug, ldv, bin, eqF, eq1, ops2, sh2, binv, Tk.agg, stC, apC, rdS, apS, cpC, cpS, mvL, zp, argsP, idx, fillP, toInts, chunks, mkC, ixS, ixA, oidx, slP, sl0, slA, optL, List.append, mxF, bltn, frzA, frz, frzL, frz1, pur1, Cells.pur, PV.scal, scal1, runD, rdO, PV.ids, id1, zids, ety, Eff.on, cnd, minb, and1b, ifmax, ifmin, mxv, sugI, strv, w0, w1, w2, wm1]
  repeat' (first | apply And.intro | intro _)
  any_goals (first | (refine hR12 _ _ _ _ ?_; clear hR12) | (first | omega | (simp only [IntKind.wrap_i64] at *; omega) | (simp_all; done) | (simp_all; omega)))
  try simp (maxSteps := 1000000) [runs, gd, step1, need, evu, un, opnds, opv, ev, cst, cst1, cstL, getT, getH, putT, onL, nxt, argT, cellsOf, PV.one, thn, inBlk, jmp, fldP, ldP, ldC, live, Cells.len, Cells.get, Cells.w, sug, ldv, bin, eqF, eq1, ops2, sh2, binv, Tk.agg, stC, apC, rdS, apS, cpC, cpS, mvL, zp, argsP, idx, fillP, toInts, chunks, mkC, ixS, ixA, oidx, slP, sl0, slA, optL, List.append, mxF, bltn, frzA, frz, frzL, frz1, pur1, Cells.pur, PV.scal, scal1, runD, rdO, PV.ids, id1, zids, ety, Eff.on, cnd, minb, and1b, ifmax, ifmin, mxv, sugI, strv, w0, w1, w2, wm1, List.take_succ_cons, List.take_zero, List.drop_succ_cons, List.drop_zero]
  repeat' (first | apply And.intro | intro _)
  any_goals (first | kernel_rfl | (refine hK2 _ ?_; clear hK2) | (first | omega | (simp only [IntKind.wrap_i64] at *; omega) | (simp_all; done) | (simp_all; omega)))
  refine swp0_raw fun S B W0 a w hpk0 hH0 hBN hs QQ hQQ => ?_
  have hs := weak_ok (k := 2) (s' := ⟨[(1, .ptr 0 0 0 1), (2, .ptr 1 0 0 1)], [(0, some ⟨.rows 9 [[.int .i64 ga, .int .u8 s, .int .u8 sh, .int .i64 m, .ro (.ints .i64 g), .old 36 (.rows 1 (se.map fun w => [.old 38 (.rows 2 (w.map Sc.row))])), .old 22 (.rows 1 (st.map fun w => [.old 3 (.ints .i64 w)])), .old 33 (.rows 1 (tn.map fun w => [.old 35 (.rows 5 (w.map Fl.row))])), .old 3 (.ints .i64 ln)]], true, 29⟩), (1, some ⟨.rows 9 [[.int .i64 0, .int .u8 0, .int .u8 0, .int .i64 0, .nil (.ints .i64 []), .nil (.rows 1 []), .nil (.rows 1 []), .nil (.rows 1 []), .nil (.ints .i64 [])]], true, 29⟩)], 2⟩) hs ⟨by simp [getT, PV.lo, lo1], by simp [getH, Blk.lo, Cells.lo, lo1], rfl, by omega⟩
  obtain ⟨c1, rfl, hH1, hok1, hfr1, hrep1, hsz1, hdef1, hbel1, hK1⟩ := hs
  have hb0 : c1.H 0 = some ⟨.rows 9 [[.int .i64 ga, .int .u8 s, .int .u8 sh, .int .i64 m, .ro (.ints .i64 g), .old 36 (.rows 1 (se.map fun w => [.old 38 (.rows 2 (w.map Sc.row))])), .old 22 (.rows 1 (st.map fun w => [.old 3 (.ints .i64 w)])), .old 33 (.rows 1 (tn.map fun w => [.old 35 (.rows 5 (w.map Fl.row))])), .old 3 (.ints .i64 ln)]], true, 29⟩ := by rw [hH1]; rfl
  have hb1 : c1.H 1 = some ⟨.rows 9 [[.int .i64 0, .int .u8 0, .int .u8 0, .int .i64 0, .nil (.ints .i64 []), .nil (.rows 1 []), .nil (.rows 1 []), .nil (.rows 1 []), .nil (.ints .i64 [])]], true, 29⟩ := by rw [hH1]; rfl
  obtain ⟨g1, hg1, hv1, hat1⟩ := ptr_own hok1 (hrep1 1) hb0 rfl
  have hblk := (hok1.ok 0 _ hb0).2
  unfold BlkOk at hblk
  rw [if_pos rfl] at hblk
  obtain ⟨gx, vs, Tb, hloc, hBg, hheap, hreps⟩ := hblk
  have hgx : gx = g1 := by rw [hloc] at hg1; simpa [blkOf] using hg1
  subst hgx
  have hheap' : c1.w.heap[gx]? = some (.cells vs.toArray Tb (0, 0)) := hheap
  obtain ⟨V, hV7, hrV, hoV⟩ := hreps.2 0 7 (show 0 < 1 by omega) (show 7 < 9 by omega)
  have hV7 : vs[7]? = some V := hV7
  have hdV : Dm c1.fz c1.pk c1.w (.old 33 (.rows 1 (tn.map fun w => [.old 35 (.rows 5 (w.map Fl.row))]))) V := by
    have hrV : Rep c1 false (.old 33 (.rows 1 (tn.map fun w => [.old 35 (.rows 5 (w.map Fl.row))]))) V := hrV
    cases hrV with
    | old _ _ _ h => exact h
  have hcell7 : c1.w.cell? ⟨gx, 7, none⟩ = some V := by simp [World.cell?, hheap', hV7]
  have hd0 := tns_start hdV
  obtain ⟨A, cpV, rfl⟩ : ∃ A cp, V = .slice A tn.length cp := by
    have hl := tnsC_len tn (fun _ _ => false)
    generalize hVV : V = VV at hd0
    cases hd0 with
    | old0 _ _ a cp e => exact ⟨a, cp, by rw [show tn.length = 0 by omega]⟩
    | old _ _ b off cp => exact ⟨_, cp, by rw [hl]⟩
  obtain ⟨v2, hv2⟩ : ∃ v, a.tmps.getD 2 undef = v := ⟨_, rfl⟩
  have hv1 : a.tmps.getD 1 undef = .pointer (some ⟨gx, 0, none⟩) := hv1
  have ha : XA 51 a.defers [(1, .pointer (some ⟨gx, 0, none⟩)), (2, v2)] a := ⟨hsz1, rfl, fun t v h => by
    unfold lkV at h
    split at h
    · cases h; subst_vars; exact hv1
    · unfold lkV at h
      split at h
      · cases h; subst_vars; rfl
      · cases h⟩
  have hrep1' := hrep1 2
  rw [hv2] at hrep1'
  have hrp1 := hrep1 1
  rw [hv1] at hrp1
  clear hrep1
  generalize a.defers = ds at ha hdef1
  refine wp_seq (wp_seq (xregion ty_ok ha ?_))
  simp [hcell7]
  refine ⟨rfl, fun a2 ha2 => ?_⟩
  clear hs
  refine wp_block ?_
  have ha2 := ha2.sub (l' := [(27, .slice A tn.length cpV), (28, .int .i64 (tn.length : Nat)), (29, .int .i64 0), (1, .pointer (some ⟨gx, 0, none⟩)), (2, v2)]) (by simp [lkV])
  have hd00 : Dm c1.fz c1.pk c1.w (.old 33 (tnsC tn fun a _ => decide (a < 0))) (.slice A tn.length cpV) := by
    rw [tnsC_congr tn (D' := fun _ _ => false) (by intros; simp)]
    exact hd0
  obtain ⟨I, hI⟩ : ∃ I : Nat → Act → World → Prop, I = fun m a w => ∃ (i : Nat) (c : Cx), i ≤ tn.length ∧ m = tn.length - i ∧ c.w = w ∧ XA 51 ds [(27, .slice A tn.length cpV), (28, .int .i64 (tn.length : Nat)), (29, .int .i64 (i : Nat)), (1, .pointer (some ⟨gx, 0, none⟩)), (2, v2)] a ∧ Lt 35 3 c1 B c ∧ Dm c.fz c.pk c.w (.old 33 (tnsC tn fun a _ => decide (a < i))) (.slice A tn.length cpV) := ⟨_, rfl⟩
  refine wp_loop_ghost I tn.length (by rw [hI]; exact ⟨0, { c1 with H := fun _ => none }, by omega, by omega, rfl, ha2, Lt.start 35 3 hok1, hd00⟩) ?_
  intro m_ a3 w3 hm
  rw [hI] at hm
  revert hm
  rintro ⟨i, c, hi, rfl, rfl, ha3, hLt, hdi⟩
  refine wp_seq (xregion ty_ok ha3 ?_)
  simp
  intro a4 ha4
  refine wp_seq (wp_cond_split (t := decide ((i : Int) < (tn.length : Nat))) (ha4.v 30 _ (by simp [lkV])) (fun ht => ?_) (fun hf => ?_))
  · refine wp_skip ?_
    have hlt : i < tn.length := by simpa using ht
    show Code.wp _ _ _ _ _
    obtain ⟨g0, off, cp, u, hVg, ⟨arr0, hgh⟩, hcu, hdu⟩ := tns_row hdi hlt
    cases hVg
    refine wp_seq (wp_block (wp_seq (xregion ty_ok ha4 ?_)))
    obtain ⟨wi, hwi0⟩ : ∃ wi, wi = tn[i]?.getD [] := ⟨_, rfl⟩
    rw [← hwi0] at hdu
    obtain ⟨Au, cpu, rfl⟩ := row_len hdu
    simp [hcu, hlt]
    refine ⟨rfl, fun a5 ha5 => ?_⟩
    refine wp_seq (xregion ty_ok ha5 ?_)
    simp
    intro a6 ha6
    refine wp_block ?_
    have ha6 := ha6.sub (l' := [(4, .slice Au wi.length cpu), (34, .int .i64 (wi.length : Nat)), (35, .int .i64 0), (27, .slice (some ⟨g0, off, none⟩) tn.length cpV), (28, .int .i64 (tn.length : Nat)), (29, .int .i64 (i : Nat)), (1, .pointer (some ⟨gx, 0, none⟩)), (2, v2)]) (by simp [lkV])
    have hwi : wi.length ≤ 1000 ∧ ∀ f ∈ wi, f.co.length ≤ 1000 := by
      rw [hwi0, List.getElem?_eq_getElem hlt]
      exact hl7 _ (List.getElem_mem hlt)
    obtain ⟨J, hJ⟩ : ∃ J : Nat → Act → World → Prop, J = fun m a w => ∃ (k : Nat) (c : Cx), k ≤ wi.length ∧ m = wi.length - k ∧ c.w = w ∧ XA 51 ds [(4, .slice Au wi.length cpu), (34, .int .i64 (wi.length : Nat)), (35, .int .i64 (k : Nat)), (27, .slice (some ⟨g0, off, none⟩) tn.length cpV), (28, .int .i64 (tn.length : Nat)), (29, .int .i64 (i : Nat)), (1, .pointer (some ⟨gx, 0, none⟩)), (2, v2)] a ∧ Lt 35 3 c1 B c ∧ Dm c.fz c.pk c.w (.old 33 (tnsC tn fun a b => decide (a < i ∨ a = i ∧ b < k))) (.slice (some ⟨g0, off, none⟩) tn.length cpV) ∧ c.w.cell? ⟨g0, off + i, none⟩ = some (.slice Au wi.length cpu) := ⟨_, rfl⟩
    refine wp_loop_ghost J wi.length (by rw [hJ]; exact ⟨0, c, by omega, by omega, rfl, ha6, hLt, (by rw [tnsC_congr tn (D' := fun a _ => decide (a < i)) (by intros; simp)]; exact hdi), hcu⟩) ?_
    clear hLt hdi hcu hdu hgh
    intro m2 a7 w7 hm
    rw [hJ] at hm
    revert hm
    rintro ⟨k, c, hk, rfl, rfl, ha7, hLt, hdi, hcu⟩
    refine wp_seq (xregion ty_ok ha7 ?_)
    simp
    intro a8 ha8
    refine wp_seq (wp_cond_split (t := decide ((k : Int) < (wi.length : Nat))) (ha8.v 36 _ (by simp [lkV])) (fun ht2 => ?_) (fun hf2 => ?_))
    · refine wp_skip ?_
      have hkl : k < wi.length := by simpa using ht2
      show Code.wp _ _ _ _ _
      refine wp_seq (wp_block (wp_seq (xregion ty_ok ha8 ?_)))
      simp
      intro a9 ha9
      refine xregion ty_ok ha9 ?_
      obtain ⟨g0', off', cp', u', hVg, ⟨arr0, hgh⟩, hcu', hdu⟩ := tns_row hdi hlt
      rw [← hwi0] at hdu
      cases hVg
      have hu' := hcu'.symm.trans hcu
      simp only [Option.some.injEq] at hu'
      subst hu'
      obtain ⟨b, o, cpb, arr, x, hub, hpb, hhb, hax, hdx⟩ := row_cell hdu hkl
      cases hub
      have hcx : c.w.cell? ⟨b, o + k * 5 + 4, none⟩ = some x := by
        rw [Nat.add_assoc]
        simp [World.cell?, hhb, hax]
      have hco : (wi[k]?.getD default).co.length ≤ 1000 := by
        rw [List.getElem?_eq_getElem hkl]
        exact hwi.2 _ (List.getElem_mem hkl)
      have C2 : FCall Try.prog 39 (.ro (.ints .i64 (wi[k]?.getD default).co)) 3 (.ints .i64 (wi[k]?.getD default).co) := fcall_of_own (clone_h 0 _ (by omega)) rfl (dat_ints _)
      have hcl := C2.at2 hLt.ok hLt.H (mix_ro hLt.ok hdx)
      simp [hcx, hkl]
      refine ⟨rfl, C2.1, hcl.mono ?_⟩
      rintro en w' ⟨v', c', rfl, rfl, hd2, hp2, hn2⟩
      have hpb' := (hp2.le.park b hpb).1
      have hhb' := (hp2.le.park b hpb).2.trans hhb
      obtain ⟨c2, hc2w, hLt2, hup, hcv, hoth, htyp⟩ := hLt.step (by decide) hp2 hn2 hpb' hhb' hax (hp2.le.dm hdx) hd2
      have hv1 : v'.cells = #[v'] ∧ v'.oneCell' = true := by cases hd2 <;> exact ⟨rfl, rfl⟩
      refine ⟨v', rfl, hv1.1, hv1.2, arr, ⟨35, hhb'⟩, (by rw [Nat.add_assoc]; exact (Array.getElem?_eq_some_iff.1 hax).1), fun a10 ha10 => ?_⟩
      show Code.wp _ _ _ _ _
      refine xregion ty_ok ha10 ?_
      simp
      intro a11 ha11
      refine ⟨wi.length - (k + 1), by omega, ?_⟩
      rw [hJ]
      have hkw := wnext (i := k) (by omega)
      have hcu2 : c2.w.cell? ⟨g0, off + i, none⟩ = some (.slice (some ⟨b, o, none⟩) wi.length cpu) := by
        have hh0 : c'.w.heap[g0]? = c.w.heap[g0]? := (hp2.only g0 ⟨(Array.getElem?_eq_some_iff.1 hgh).1, fun id blk e => by rw [hLt.H] at e; cases e⟩).2.1
        rw [hoth g0 (off + i) (fun ar e => by rw [hh0, hgh] at e; cases e), World.cell?_of_block (a := ⟨g0, off + i, none⟩) hh0]
        exact hcu
      have hd3 := hup _ _ (sh_tns tn _) (hp2.le.dm hdi)
      have hr3 := hup _ _ (sh_row _ _) (hp2.le.dm hdu)
      have hx3 := hup _ _ (.flat _ _) hd2
      have hr4 := row_better (d' := fun b => decide (i < i ∨ i = i ∧ b < k + 1)) (k := k) hr3 rfl hcv hx3 (fun j hj => by show decide (i < i ∨ i = i ∧ j < k + 1) = decide (i < i ∨ i = i ∧ j < k); rw [Bool.eq_iff_iff]; simp only [decide_eq_true_eq, true_and]; omega)
      have hd4 := tns_better (D' := fun a b => decide (a < i ∨ a = i ∧ b < k + 1)) hd3 rfl hcu2 (by rw [← hwi0]; exact hr4) (fun j hj => by funext b; rw [Bool.eq_iff_iff]; simp only [decide_eq_true_eq]; omega)
      exact ⟨k + 1, c2, by omega, rfl, by rw [hc2w]; simp [Nat.add_assoc], ha11.sub (by simp [lkV, hkw]), hLt2, hd4, hcu2⟩
    · refine wp_exit ?_
      have hkl : ¬ k < wi.length := by simpa using hf2
      show Code.wp _ _ _ _ _
      refine xregion ty_ok ha8 ?_
      simp
      intro a9 ha9
      refine ⟨tn.length - (i + 1), by omega, ?_⟩
      rw [hI]
      have hiw := wnext (i := i) (by omega)
      refine ⟨i + 1, c, by omega, rfl, rfl, ha9.sub (by simp [lkV, hiw]), hLt, ?_⟩
      rw [tnsC_congr tn (D' := fun a b => decide (a < i ∨ a = i ∧ b < k)) (fun a b ha hb => ?_)]
      · exact hdi
      · rw [Bool.eq_iff_iff]
        simp only [decide_eq_true_eq]
        by_cases hai : a = i
        · subst hai; rw [← hwi0] at hb; omega
        · omega
  · refine wp_exit ?_
    have hlt : ¬ i < tn.length := by simpa using hf
    show Code.wp _ _ _ _ _
    have hdE := tns_end (fun a b ha _ => by simp only [decide_eq_true_eq]; omega) hdi
    have hn0 : ∀ g, blkOf (c1.loc 0) = some g → ¬ c1.pk g := fun g hg hp => (hok1.pk g hp).2.1.2 0 _ hb0 hg
    have hn1 : ∀ g, blkOf (c1.loc 1) = some g → ¬ c1.pk g := fun g hg hp => (hok1.pk g hp).2.1.2 1 _ hb1 hg
    have hsim : Sim S B 51 W0 ⟨[(1, .ptr 0 0 0 1), (2, .ptr 1 0 0 1)], [(0, some ⟨.rows 9 [[.int .i64 ga, .int .u8 s, .int .u8 sh, .int .i64 m, .ro (.ints .i64 g), .old 36 (.rows 1 (se.map fun w => [.old 38 (.rows 2 (w.map Sc.row))])), .old 22 (.rows 1 (st.map fun w => [.old 3 (.ints .i64 w)])), .old 33 (.rows 1 (tn.map fun w => [.old 35 (.rows 5 (w.map FlO))])), .old 3 (.ints .i64 ln)]], true, 29⟩), (1, some ⟨.rows 9 [[.int .i64 0, .int .u8 0, .int .u8 0, .int .i64 0, .nil (.ints .i64 []), .nil (.rows 1 []), .nil (.rows 1 []), .nil (.rows 1 []), .nil (.ints .i64 [])]], true, 29⟩)], 2⟩ a4 c.w := by
      refine hLt.sim hpk0 hH0 hBN hok1 hfr1 (by rw [ha4.ds]; exact hdef1) hbel1 hK1 ha4.sz (fun id blk e => ?_) (fun t => ?_)
      · have e' : (if 0 = id then some (⟨.rows 9 [[.int .i64 ga, .int .u8 s, .int .u8 sh, .int .i64 m, .ro (.ints .i64 g), .old 36 (.rows 1 (se.map fun w => [.old 38 (.rows 2 (w.map Sc.row))])), .old 22 (.rows 1 (st.map fun w => [.old 3 (.ints .i64 w)])), .old 33 (.rows 1 (tn.map fun w => [.old 35 (.rows 5 (w.map FlO))])), .old 3 (.ints .i64 ln)]], true, 29⟩ : Blk) else if 1 = id then some ⟨.rows 9 [[.int .i64 0, .int .u8 0, .int .u8 0, .int .i64 0, .nil (.ints .i64 []), .nil (.rows 1 []), .nil (.rows 1 []), .nil (.rows 1 []), .nil (.ints .i64 [])]], true, 29⟩ else none) = some blk := e
        by_cases h0 : 0 = id
        · subst h0
          rw [if_pos rfl] at e'
          cases e'
          refine ⟨⟨_, hb0⟩, hLt.box _ (hok1.ok 0 _ hb0).2 hn0 fun j hj v hv r => ?_⟩
          match j, hj with
          | 0, _ => exact hLt.rep _ (.inl rfl) r
          | 1, _ => exact hLt.rep _ (.inl rfl) r
          | 2, _ => exact hLt.rep _ (.inl rfl) r
          | 3, _ => exact hLt.rep _ (.inl rfl) r
          | 4, _ => exact hLt.rep _ (.inl rfl) r
          | 5, _ => exact hLt.rep _ (.inr ⟨_, _, rfl, shp_se se⟩) r
          | 6, _ => exact hLt.rep _ (.inr ⟨_, _, rfl, shp_st st⟩) r
          | 7, _ =>
            have := hv gx hg1
            rw [hcell7] at this
            cases this
            exact .old _ _ _ hdE
          | 8, _ => exact hLt.rep _ (.inr ⟨_, _, rfl, .flat _ _⟩) r
        · rw [if_neg h0] at e'
          by_cases h1 : 1 = id
          · subst h1
            rw [if_pos rfl] at e'
            cases e'
            refine ⟨⟨_, hb1⟩, hLt.box _ (hok1.ok 1 _ hb1).2 hn1 fun j hj v hv r => ?_⟩
            match j, hj with
            | 0, _ => exact hLt.rep _ (.inl rfl) r
            | 1, _ => exact hLt.rep _ (.inl rfl) r
            | 2, _ => exact hLt.rep _ (.inl rfl) r
            | 3, _ => exact hLt.rep _ (.inl rfl) r
            | 4, _ => exact hLt.rep _ (.inl rfl) r
            | 5, _ => exact hLt.rep _ (.inl rfl) r
            | 6, _ => exact hLt.rep _ (.inl rfl) r
            | 7, _ => exact hLt.rep _ (.inl rfl) r
            | 8, _ => exact hLt.rep _ (.inl rfl) r
          · rw [if_neg h1] at e'
            cases e'
      · show Rep _ false (if 1 = t then .ptr 0 0 0 1 else if 2 = t then .ptr 1 0 0 1 else .any) _
        by_cases h1 : 1 = t
        · subst h1
          rw [if_pos rfl, ha4.v 1 (.pointer (some ⟨gx, 0, none⟩)) (by simp [lkV])]
          exact hLt.ptr _ hrp1 fun blk' e => ⟨_, hb0, by cases e; rfl, by cases e; rfl⟩
        · rw [if_neg h1]
          by_cases h2 : 2 = t
          · subst h2
            rw [if_pos rfl, ha4.v 2 v2 (by simp [lkV])]
            exact hLt.ptr _ hrep1' fun blk' e => ⟨_, hb1, by cases e; rfl, by cases e; rfl⟩
          · rw [if_neg h2]
            exact .any ..
    refine SWp.run ?_ hsim hQQ
    clear hsim
    refine swp_seq fun K31 hK31 => ?_
    refine swp_region ty_ok ?_
    try simp (maxSteps := 1000000) [runs, gd, step1, need, evu, un, opnds, opv, ev, cst, cst1, cstL, getT, getH, putT, onL, nxt, argT, cellsOf, PV.one, thn, inBlk, jmp, fldP, ldP, ldC, live, Cells.len, Cells.get, Cells.w, sug, ldv, bin, eqF, eq1, ops2, sh2, binv, Tk.agg, stC, apC, rdS, apS, cpC, cpS, mvL, zp, argsP, idx, fillP, toInts, chunks, mkC, ixS, ixA, oidx, slP, sl0, slA, optL, List.append, mxF, bltn, frzA, frz, frzL, frz1, pur1, Cells.pur, PV.scal, scal1, runD, rdO, PV.ids, id1, zids, ety, Eff.on, cnd, minb, and1b, ifmax, ifmin, mxv, sugI, strv, w0, w1, w2, wm1]
    repeat' (first | apply And.intro | intro _)
    any_goals (first | (refine hK31 _ ?_; clear hK31) | (first | omega | (simp only [IntKind.wrap_i64] at *; omega) | (simp_all; done) | (simp_all; omega)))
    refine swp_ret ?_
    simp [runs, gd, step1, need, evu, un, opnds, opv, ev, cst, cst1, cstL, getT, getH, putT, onL, nxt, argT, cellsOf, PV.one, thn, inBlk, jmp, fldP, ldP, ldC, live, Cells.len, Cells.get, Cells.w, sug, ldv, bin, eqF, eq1, ops2, sh2, binv, Tk.agg, stC, apC, rdS, apS, cpC, cpS, mvL, zp, argsP, idx, fillP, toInts, chunks, mkC, ixS, ixA, oidx, slP, sl0, slA, optL, List.append, mxF, bltn, frzA, frz, frzL, frz1, pur1, Cells.pur, PV.scal, scal1, runD, rdO, PV.ids, id1, zids, ety, Eff.on, cnd, minb, and1b, ifmax, ifmin, mxv, sugI, strv, w0, w1, w2, wm1, fnPostH, PV.inR, inR1, PV.inL, inL1, Blk.inL, Cells.inL, put_at, Try.results15, resP, tupOf]


end Go.Proofs.Ytmkgfgdipkagbaa

