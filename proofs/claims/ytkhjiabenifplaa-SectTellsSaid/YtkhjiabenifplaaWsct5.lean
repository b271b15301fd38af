import Derived.Test.YtkhjiabenifplaaWf
import Derived.Test.YtkhjiabenifplaaTyi
import Derived.Test.YtkhjiabenifplaaWband
import Derived.Test.YtkhjiabenifplaaWinfo
import Derived.Test.YtkhjiabenifplaaWbits
import Derived.Test.YtkhjiabenifplaaWrd
import Derived.Test.YtkhjiabenifplaaWrdq
import Derived.Test.YtkhjiabenifplaaWsct
import Derived.Test.YtkhjiabenifplaaWsct2
import Derived.Test.YtkhjiabenifplaaWsct3
import Derived.Test.YtkhjiabenifplaaWbits2
import Derived.Test.YtkhjiabenifplaaWsct4
namespace Go.Proofs.Ytkhjiabenifplaa
set_option linter.unusedVariables false
set_option linter.unusedSimpArgs false
set_option maxRecDepth 10000
open Go Go.Pv

open Go.RowKit
theorem sgetX_bd {b : List Int} (hb : ∀ y ∈ b, 0 ≤ y) (a s sh m : Int) (g : List Int) : (sgetX b a s sh m g).1.length ≤ 8 ∧ ∀ w ∈ (sgetX b a s sh m g).1, w.length ≤ 40 := by
  by_cases h : (sgetX b a s sh m g).2.2 = 0
  · obtain ⟨h1, h2, h3, h4⟩ := chX_ok (sgetX_ok hb h).1
    exact ⟨h3, fun w hw => ((secB_true h2).2 w hw).2.2⟩
  · rw [(sgetX_no h).1]
    simp
def manyS (l : List (List Sc)) (k : Nat) : Nat := ((l.take k).map List.length).sum
def leastS (s : Int) : Nat := if s = 2 then 7 else 9
def strB (xs : List Int) : ByteArray := xs.foldl (fun r n => r.push (UInt8.ofNat n.toNat)) ByteArray.empty
set_option maxHeartbeats 8000000 in
theorem sectTells_ok (bs : List Int) (hp : ∀ y ∈ bs, 0 ≤ y ∧ y ≤ 255) (a : Int) (ha : -9223372036854775808 ≤ a ∧ a ≤ 9223372036854775807) (s sh m : Int) (g : List Int) (l : List (List Sc))  : PCall Try.prog 11 [.ro (.ints .u8 bs), .int .i64 a, .agg [.int .u8 s, .int .u8 sh, .int .i64 m, .ro (.ints .i64 g)], .ro (.rows 1 (l.map fun w => [.ro (.rows 2 (w.map Sc.row))]))] (.bool true) := by
  refine pcall_body ty_ok Try.func11 rfl (by rfl) (by simp) ?_
  rw [Try.ntmps11]
  refine swp_seq fun K1 hK1 => ?_
  refine swp_region ty_ok ?_
  try simp (maxSteps := 1000000) [runs, gd, step1, need, evu, un, opnds, opv, ev, cst, cst1, cstL, getT, getH, putT, onL, nxt, argT, cellsOf, PV.one, thn, inBlk, jmp, fldP, ldP, ldC, live, Cells.len, Cells.get, Cells.w, sug, ldv, bin, eqF, eq1, ops2, sh2, binv, Tk.agg, stC, apC, rdS, apS, cpC, cpS, mvL, zp, argsP, idx, fillP, toInts, chunks, mkC, ixS, ixA, oidx, slP, sl0, slA, optL, List.append, mxF, bltn, frzA, frz, frzL, frz1, pur1, Cells.pur, PV.scal, scal1, runD, rdO, PV.ids, id1, zids, ety, Eff.on, cnd, minb, and1b, ifmax, ifmin, mxv, sugI, strv, w0, w1, w2, wm1]
  repeat' (first | apply And.intro | intro _)
  any_goals (first | (refine hK1 _ ?_; clear hK1) | (first | omega | (simp only [IntKind.wrap_i64] at *; omega) | (simp_all; done) | (simp_all; omega)))
  refine swp_seq fun K2 hK2 => ?_
  refine swp_seq fun K3 hK3 => ?_
  refine swp_region ty_ok ?_
  refine runs_cut 11 fun R4 hR4 => ?_
  try simp (maxSteps := 1000000) [runs, gd, step1, need, evu, un, opnds, opv, ev, cst, cst1, cstL, getT, getH, putT, onL, nxt, argT, cellsOf, PV.one, thn, inBlk, jmp, fldP, ldP, ldC, live, Cells.len, Cells.get, Cells.w, sug, ldv, bin, eqF, eq1, ops2, sh2, binv, Tk.agg, stC, apC, rdS, apS, cpC, cpS, mvL, zp, argsP, idx, fillP, toInts, chunks, mkC, ixS, ixA, oidx, slP, sl0, slA, optL, List.append, mxF, bltn, frzA, frz, frzL, frz1, pur1, Cells.pur, PV.scal, scal1, runD, rdO, PV.ids, id1, zids, ety, Eff.on, cnd, minb, and1b, ifmax, ifmin, mxv, sugI, strv, w0, w1, w2, wm1, List.take_succ_cons, List.take_zero, List.drop_succ_cons, List.drop_zero]
  repeat' (first | apply And.intro | intro _)
  any_goals (first | (refine hR4 _ ?_; clear hR4) | (first | omega | (simp only [IntKind.wrap_i64] at *; omega) | (simp_all; done) | (simp_all; omega)))
  refine runs_cut 1 fun R5 hR5 => ?_
  try simp (maxSteps := 1000000) [runs, gd, step1, need, evu, un, opnds, opv, ev, cst, cst1, cstL, getT, getH, putT, onL, nxt, argT, cellsOf, PV.one, thn, inBlk, jmp, fldP, ldP, ldC, live, Cells.len, Cells.get, Cells.w, sug, ldv, bin, eqF, eq1, ops2, sh2, binv, Tk.agg, stC, apC, rdS, apS, cpC, cpS, mvL, zp, argsP, idx, fillP, toInts, chunks, mkC, ixS, ixA, oidx, slP, sl0, slA, optL, List.append, mxF, bltn, frzA, frz, frzL, frz1, pur1, Cells.pur, PV.scal, scal1, runD, rdO, PV.ids, id1, zids, ety, Eff.on, cnd, minb, and1b, ifmax, ifmin, mxv, sugI, strv, w0, w1, w2, wm1, List.take_succ_cons, List.take_zero, List.drop_succ_cons, List.drop_zero]
  first | refine .inl ⟨_, fun hb => .inl ⟨great19_ok l, rfl⟩, ?_⟩ | refine .inl ⟨_, .inl ⟨great19_ok l, rfl⟩, ?_⟩ | refine .inl ⟨_, fun hb => .inl (great19_ok l), ?_⟩ | refine .inl ⟨_, .inl (great19_ok l), ?_⟩ | refine .inl ⟨_, by (intros; exact Or.inl (great19_ok l)), ?_⟩ | refine .inl ⟨_, by (intros; exact Or.inl ⟨great19_ok l, rfl⟩), ?_⟩ | refine .inl ⟨_, fun hb => .inl ⟨_, great19_ok l, by (try simp [runs, gd, step1, need, evu, un, opnds, opv, ev, cst, cst1, cstL, getT, getH, putT, onL, nxt, argT, cellsOf, PV.one, thn, inBlk, jmp, fldP, ldP, ldC, live, Cells.len, Cells.get, Cells.w, sug, ldv, bin, eqF, eq1, ops2, sh2, binv, Tk.agg, stC, apC, rdS, apS, cpC, cpS, mvL, zp, argsP, idx, fillP, toInts, chunks, mkC, ixS, ixA, oidx, slP, sl0, slA, optL, List.append, mxF, bltn, frzA, frz, frzL, frz1, pur1, Cells.pur, PV.scal, scal1, runD, rdO, PV.ids, id1, zids, ety, Eff.on, cnd, minb, and1b, ifmax, ifmin, mxv, sugI, strv, w0, w1, w2, wm1]); exact ⟨rfl, rfl⟩⟩, ?_⟩
  repeat' (first | apply And.intro | intro _)
  any_goals (first | (refine hR5 _ ?_; clear hR5) | (first | omega | (simp only [IntKind.wrap_i64] at *; omega) | (simp_all; done) | (simp_all; omega)))
  try simp (maxSteps := 1000000) [runs, gd, step1, need, evu, un, opnds, opv, ev, cst, cst1, cstL, getT, getH, putT, onL, nxt, argT, cellsOf, PV.one, thn, inBlk, jmp, fldP, ldP, ldC, live, Cells.len, Cells.get, Cells.w, sug, ldv, bin, eqF, eq1, ops2, sh2, binv, Tk.agg, stC, apC, rdS, apS, cpC, cpS, mvL, zp, argsP, idx, fillP, toInts, chunks, mkC, ixS, ixA, oidx, slP, sl0, slA, optL, List.append, mxF, bltn, frzA, frz, frzL, frz1, pur1, Cells.pur, PV.scal, scal1, runD, rdO, PV.ids, id1, zids, ety, Eff.on, cnd, minb, and1b, ifmax, ifmin, mxv, sugI, strv, w0, w1, w2, wm1, List.take_succ_cons, List.take_zero, List.drop_succ_cons, List.drop_zero]
  repeat' (first | apply And.intro | intro _)
  any_goals (first | (refine hK3 _ ?_; clear hK3) | (first | omega | (simp only [IntKind.wrap_i64] at *; omega) | (simp_all; done) | (simp_all; omega)))
  refine swp_if fun C6 hC6 => ?_
  try simp (maxSteps := 1000000) [runs, gd, step1, need, evu, un, opnds, opv, ev, cst, cst1, cstL, getT, getH, putT, onL, nxt, argT, cellsOf, PV.one, thn, inBlk, jmp, fldP, ldP, ldC, live, Cells.len, Cells.get, Cells.w, sug, ldv, bin, eqF, eq1, ops2, sh2, binv, Tk.agg, stC, apC, rdS, apS, cpC, cpS, mvL, zp, argsP, idx, fillP, toInts, chunks, mkC, ixS, ixA, oidx, slP, sl0, slA, optL, List.append, mxF, bltn, frzA, frz, frzL, frz1, pur1, Cells.pur, PV.scal, scal1, runD, rdO, PV.ids, id1, zids, ety, Eff.on, cnd, minb, and1b, ifmax, ifmin, mxv, sugI, strv, w0, w1, w2, wm1]
  refine hC6 _ (fun hc6 => ?_) (fun hc6 => ?_)
  · clear hC6
    try simp at hc6
    refine swp_seq fun K7 hK7 => ?_
    refine swp_region ty_ok ?_
    try simp (maxSteps := 1000000) [runs, gd, step1, need, evu, un, opnds, opv, ev, cst, cst1, cstL, getT, getH, putT, onL, nxt, argT, cellsOf, PV.one, thn, inBlk, jmp, fldP, ldP, ldC, live, Cells.len, Cells.get, Cells.w, sug, ldv, bin, eqF, eq1, ops2, sh2, binv, Tk.agg, stC, apC, rdS, apS, cpC, cpS, mvL, zp, argsP, idx, fillP, toInts, chunks, mkC, ixS, ixA, oidx, slP, sl0, slA, optL, List.append, mxF, bltn, frzA, frz, frzL, frz1, pur1, Cells.pur, PV.scal, scal1, runD, rdO, PV.ids, id1, zids, ety, Eff.on, cnd, minb, and1b, ifmax, ifmin, mxv, sugI, strv, w0, w1, w2, wm1]
    repeat' (first | apply And.intro | intro _)
    any_goals (first | (refine hK7 _ ?_; clear hK7) | (first | omega | (simp only [IntKind.wrap_i64] at *; omega) | (simp_all; done) | (simp_all; omega)))
    refine swp_ret ?_
    simp [runs, gd, step1, need, evu, un, opnds, opv, ev, cst, cst1, cstL, getT, getH, putT, onL, nxt, argT, cellsOf, PV.one, thn, inBlk, jmp, fldP, ldP, ldC, live, Cells.len, Cells.get, Cells.w, sug, ldv, bin, eqF, eq1, ops2, sh2, binv, Tk.agg, stC, apC, rdS, apS, cpC, cpS, mvL, zp, argsP, idx, fillP, toInts, chunks, mkC, ixS, ixA, oidx, slP, sl0, slA, optL, List.append, mxF, bltn, frzA, frz, frzL, frz1, pur1, Cells.pur, PV.scal, scal1, runD, rdO, PV.ids, id1, zids, ety, Eff.on, cnd, minb, and1b, ifmax, ifmin, mxv, sugI, strv, w0, w1, w2, wm1, fnPost, Try.results11, resP, tupOf]
  · clear hC6
    try simp at hc6
    refine swp_skip ?_
    try simp only [thn, inBlk]
    refine hK2 _ ?_; clear hK2
    refine swp_seq fun K8 hK8 => ?_
    have hcc := hc6
    obtain ⟨hl1, hlw⟩ := grt_no (l := l) (by first | exact hcc.2 | simpa using hcc.2)
    have hA := sput_ok bs s sh m g (by omega) l (by omega) (fun w hw => by have := hlw w hw; omega) (by omega)
    have hB := rput19_ok bs s sh m g (by omega) l (by omega) (fun w hw => by have := hlw w hw; omega) (by omega)
    generalize (if chX s sh m g l = 0 then bs ++ aB s l l.length else []) = Z at hA hB
    have hgA := sget_ok bs a s sh m g (by omega) (by omega) hp ha
    have hgB := rget19_ok bs a s sh m g (by omega) (by omega) hp ha
    obtain ⟨hv1, hv2⟩ := sgetX_bd (fun y hy => (hp y hy).1) a s sh m g
    generalize (sgetX bs a s sh m g).1 = V at hgA hgB hv1 hv2
    generalize (sgetX bs a s sh m g).2.1 = P at hgA hgB
    generalize (sgetX bs a s sh m g).2.2 = E at hgA hgB
    refine swp_region ty_ok ?_
    try simp (maxSteps := 1000000) [runs, gd, step1, need, evu, un, opnds, opv, ev, cst, cst1, cstL, getT, getH, putT, onL, nxt, argT, cellsOf, PV.one, thn, inBlk, jmp, fldP, ldP, ldC, live, Cells.len, Cells.get, Cells.w, sug, ldv, bin, eqF, eq1, ops2, sh2, binv, Tk.agg, stC, apC, rdS, apS, cpC, cpS, mvL, zp, argsP, idx, fillP, toInts, chunks, mkC, ixS, ixA, oidx, slP, sl0, slA, optL, List.append, mxF, bltn, frzA, frz, frzL, frz1, pur1, Cells.pur, PV.scal, scal1, runD, rdO, PV.ids, id1, zids, ety, Eff.on, cnd, minb, and1b, ifmax, ifmin, mxv, sugI, strv, w0, w1, w2, wm1]
    repeat' (first | apply And.intro | intro _)
    any_goals (first | (refine hK8 _ ?_; clear hK8) | (first | omega | (simp only [IntKind.wrap_i64] at *; omega) | (simp_all; done) | (simp_all; omega)))
    refine swp_seq fun K9 hK9 => ?_
    refine swp_region ty_ok ?_
    refine runs_cut 3 fun R10 hR10 => ?_
    try simp (maxSteps := 1000000) [runs, gd, step1, need, evu, un, opnds, opv, ev, cst, cst1, cstL, getT, getH, putT, onL, nxt, argT, cellsOf, PV.one, thn, inBlk, jmp, fldP, ldP, ldC, live, Cells.len, Cells.get, Cells.w, sug, ldv, bin, eqF, eq1, ops2, sh2, binv, Tk.agg, stC, apC, rdS, apS, cpC, cpS, mvL, zp, argsP, idx, fillP, toInts, chunks, mkC, ixS, ixA, oidx, slP, sl0, slA, optL, List.append, mxF, bltn, frzA, frz, frzL, frz1, pur1, Cells.pur, PV.scal, scal1, runD, rdO, PV.ids, id1, zids, ety, Eff.on, cnd, minb, and1b, ifmax, ifmin, mxv, sugI, strv, w0, w1, w2, wm1, List.take_succ_cons, List.take_zero, List.drop_succ_cons, List.drop_zero]
    repeat' (first | apply And.intro | intro _)
    any_goals (first | (refine hR10 _ ?_; clear hR10) | (first | omega | (simp only [IntKind.wrap_i64] at *; omega) | (simp_all; done) | (simp_all; omega)))
    refine runs_cut 1 fun R11 hR11 => ?_
    try simp (maxSteps := 1000000) [runs, gd, step1, need, evu, un, opnds, opv, ev, cst, cst1, cstL, getT, getH, putT, onL, nxt, argT, cellsOf, PV.one, thn, inBlk, jmp, fldP, ldP, ldC, live, Cells.len, Cells.get, Cells.w, sug, ldv, bin, eqF, eq1, ops2, sh2, binv, Tk.agg, stC, apC, rdS, apS, cpC, cpS, mvL, zp, argsP, idx, fillP, toInts, chunks, mkC, ixS, ixA, oidx, slP, sl0, slA, optL, List.append, mxF, bltn, frzA, frz, frzL, frz1, pur1, Cells.pur, PV.scal, scal1, runD, rdO, PV.ids, id1, zids, ety, Eff.on, cnd, minb, and1b, ifmax, ifmin, mxv, sugI, strv, w0, w1, w2, wm1, List.take_succ_cons, List.take_zero, List.drop_succ_cons, List.drop_zero]
    refine .inl ⟨_, hA, ?_⟩
    try simp (maxSteps := 1000000) [runs, gd, step1, need, evu, un, opnds, opv, ev, cst, cst1, cstL, getT, getH, putT, onL, nxt, argT, cellsOf, PV.one, thn, inBlk, jmp, fldP, ldP, ldC, live, Cells.len, Cells.get, Cells.w, sug, ldv, bin, eqF, eq1, ops2, sh2, binv, Tk.agg, stC, apC, rdS, apS, cpC, cpS, mvL, zp, argsP, idx, fillP, toInts, chunks, mkC, ixS, ixA, oidx, slP, sl0, slA, optL, List.append, mxF, bltn, frzA, frz, frzL, frz1, pur1, Cells.pur, PV.scal, scal1, runD, rdO, PV.ids, id1, zids, ety, Eff.on, cnd, minb, and1b, ifmax, ifmin, mxv, sugI, strv, w0, w1, w2, wm1]
    repeat' (first | apply And.intro | intro _)
    any_goals (first | (refine hR11 _ ?_; clear hR11) | (first | omega | (simp only [IntKind.wrap_i64] at *; omega) | (simp_all; done) | (simp_all; omega)))
    try simp (maxSteps := 1000000) [runs, gd, step1, need, evu, un, opnds, opv, ev, cst, cst1, cstL, getT, getH, putT, onL, nxt, argT, cellsOf, PV.one, thn, inBlk, jmp, fldP, ldP, ldC, live, Cells.len, Cells.get, Cells.w, sug, ldv, bin, eqF, eq1, ops2, sh2, binv, Tk.agg, stC, apC, rdS, apS, cpC, cpS, mvL, zp, argsP, idx, fillP, toInts, chunks, mkC, ixS, ixA, oidx, slP, sl0, slA, optL, List.append, mxF, bltn, frzA, frz, frzL, frz1, pur1, Cells.pur, PV.scal, scal1, runD, rdO, PV.ids, id1, zids, ety, Eff.on, cnd, minb, and1b, ifmax, ifmin, mxv, sugI, strv, w0, w1, w2, wm1, List.take_succ_cons, List.take_zero, List.drop_succ_cons, List.drop_zero]
    repeat' (first | apply And.intro | intro _)
    any_goals (first | (refine hK9 _ ?_; clear hK9) | (first | omega | (simp only [IntKind.wrap_i64] at *; omega) | (simp_all; done) | (simp_all; omega)))
    refine swp_seq fun K12 hK12 => ?_
    refine swp_region ty_ok ?_
    refine runs_cut 3 fun R13 hR13 => ?_
    try simp (maxSteps := 1000000) [runs, gd, step1, need, evu, un, opnds, opv, ev, cst, cst1, cstL, getT, getH, putT, onL, nxt, argT, cellsOf, PV.one, thn, inBlk, jmp, fldP, ldP, ldC, live, Cells.len, Cells.get, Cells.w, sug, ldv, bin, eqF, eq1, ops2, sh2, binv, Tk.agg, stC, apC, rdS, apS, cpC, cpS, mvL, zp, argsP, idx, fillP, toInts, chunks, mkC, ixS, ixA, oidx, slP, sl0, slA, optL, List.append, mxF, bltn, frzA, frz, frzL, frz1, pur1, Cells.pur, PV.scal, scal1, runD, rdO, PV.ids, id1, zids, ety, Eff.on, cnd, minb, and1b, ifmax, ifmin, mxv, sugI, strv, w0, w1, w2, wm1, List.take_succ_cons, List.take_zero, List.drop_succ_cons, List.drop_zero]
    repeat' (first | apply And.intro | intro _)
    any_goals (first | (refine hR13 _ ?_; clear hR13) | (first | omega | (simp only [IntKind.wrap_i64] at *; omega) | (simp_all; done) | (simp_all; omega)))
    refine runs_cut 1 fun R14 hR14 => ?_
    try simp (maxSteps := 1000000) [runs, gd, step1, need, evu, un, opnds, opv, ev, cst, cst1, cstL, getT, getH, putT, onL, nxt, argT, cellsOf, PV.one, thn, inBlk, jmp, fldP, ldP, ldC, live, Cells.len, Cells.get, Cells.w, sug, ldv, bin, eqF, eq1, ops2, sh2, binv, Tk.agg, stC, apC, rdS, apS, cpC, cpS, mvL, zp, argsP, idx, fillP, toInts, chunks, mkC, ixS, ixA, oidx, slP, sl0, slA, optL, List.append, mxF, bltn, frzA, frz, frzL, frz1, pur1, Cells.pur, PV.scal, scal1, runD, rdO, PV.ids, id1, zids, ety, Eff.on, cnd, minb, and1b, ifmax, ifmin, mxv, sugI, strv, w0, w1, w2, wm1, List.take_succ_cons, List.take_zero, List.drop_succ_cons, List.drop_zero]
    refine .inl ⟨_, hB, ?_⟩
    try simp (maxSteps := 1000000) [runs, gd, step1, need, evu, un, opnds, opv, ev, cst, cst1, cstL, getT, getH, putT, onL, nxt, argT, cellsOf, PV.one, thn, inBlk, jmp, fldP, ldP, ldC, live, Cells.len, Cells.get, Cells.w, sug, ldv, bin, eqF, eq1, ops2, sh2, binv, Tk.agg, stC, apC, rdS, apS, cpC, cpS, mvL, zp, argsP, idx, fillP, toInts, chunks, mkC, ixS, ixA, oidx, slP, sl0, slA, optL, List.append, mxF, bltn, frzA, frz, frzL, frz1, pur1, Cells.pur, PV.scal, scal1, runD, rdO, PV.ids, id1, zids, ety, Eff.on, cnd, minb, and1b, ifmax, ifmin, mxv, sugI, strv, w0, w1, w2, wm1]
    repeat' (first | apply And.intro | intro _)
    any_goals (first | (refine hR14 _ ?_; clear hR14) | (first | omega | (simp only [IntKind.wrap_i64] at *; omega) | (simp_all; done) | (simp_all; omega)))
    try simp (maxSteps := 1000000) [runs, gd, step1, need, evu, un, opnds, opv, ev, cst, cst1, cstL, getT, getH, putT, onL, nxt, argT, cellsOf, PV.one, thn, inBlk, jmp, fldP, ldP, ldC, live, Cells.len, Cells.get, Cells.w, sug, ldv, bin, eqF, eq1, ops2, sh2, binv, Tk.agg, stC, apC, rdS, apS, cpC, cpS, mvL, zp, argsP, idx, fillP, toInts, chunks, mkC, ixS, ixA, oidx, slP, sl0, slA, optL, List.append, mxF, bltn, frzA, frz, frzL, frz1, pur1, Cells.pur, PV.scal, scal1, runD, rdO, PV.ids, id1, zids, ety, Eff.on, cnd, minb, and1b, ifmax, ifmin, mxv, sugI, strv, w0, w1, w2, wm1, List.take_succ_cons, List.take_zero, List.drop_succ_cons, List.drop_zero]
    repeat' (first | apply And.intro | intro _)
    any_goals (first | (refine hK12 _ ?_; clear hK12) | (first | omega | (simp only [IntKind.wrap_i64] at *; omega) | (simp_all; done) | (simp_all; omega)))
    refine swp_seq fun K15 hK15 => ?_
    refine swp_region ty_ok ?_
    refine runs_cut 3 fun R16 hR16 => ?_
    try simp (maxSteps := 1000000) [runs, gd, step1, need, evu, un, opnds, opv, ev, cst, cst1, cstL, getT, getH, putT, onL, nxt, argT, cellsOf, PV.one, thn, inBlk, jmp, fldP, ldP, ldC, live, Cells.len, Cells.get, Cells.w, sug, ldv, bin, eqF, eq1, ops2, sh2, binv, Tk.agg, stC, apC, rdS, apS, cpC, cpS, mvL, zp, argsP, idx, fillP, toInts, chunks, mkC, ixS, ixA, oidx, slP, sl0, slA, optL, List.append, mxF, bltn, frzA, frz, frzL, frz1, pur1, Cells.pur, PV.scal, scal1, runD, rdO, PV.ids, id1, zids, ety, Eff.on, cnd, minb, and1b, ifmax, ifmin, mxv, sugI, strv, w0, w1, w2, wm1, List.take_succ_cons, List.take_zero, List.drop_succ_cons, List.drop_zero]
    repeat' (first | apply And.intro | intro _)
    any_goals (first | (refine hR16 _ ?_; clear hR16) | (first | omega | (simp only [IntKind.wrap_i64] at *; omega) | (simp_all; done) | (simp_all; omega)))
    refine runs_cut 1 fun R17 hR17 => ?_
    try simp (maxSteps := 1000000) [runs, gd, step1, need, evu, un, opnds, opv, ev, cst, cst1, cstL, getT, getH, putT, onL, nxt, argT, cellsOf, PV.one, thn, inBlk, jmp, fldP, ldP, ldC, live, Cells.len, Cells.get, Cells.w, sug, ldv, bin, eqF, eq1, ops2, sh2, binv, Tk.agg, stC, apC, rdS, apS, cpC, cpS, mvL, zp, argsP, idx, fillP, toInts, chunks, mkC, ixS, ixA, oidx, slP, sl0, slA, optL, List.append, mxF, bltn, frzA, frz, frzL, frz1, pur1, Cells.pur, PV.scal, scal1, runD, rdO, PV.ids, id1, zids, ety, Eff.on, cnd, minb, and1b, ifmax, ifmin, mxv, sugI, strv, w0, w1, w2, wm1, List.take_succ_cons, List.take_zero, List.drop_succ_cons, List.drop_zero]
    refine .inl ⟨_, hgA, ?_⟩
    try simp (maxSteps := 1000000) [runs, gd, step1, need, evu, un, opnds, opv, ev, cst, cst1, cstL, getT, getH, putT, onL, nxt, argT, cellsOf, PV.one, thn, inBlk, jmp, fldP, ldP, ldC, live, Cells.len, Cells.get, Cells.w, sug, ldv, bin, eqF, eq1, ops2, sh2, binv, Tk.agg, stC, apC, rdS, apS, cpC, cpS, mvL, zp, argsP, idx, fillP, toInts, chunks, mkC, ixS, ixA, oidx, slP, sl0, slA, optL, List.append, mxF, bltn, frzA, frz, frzL, frz1, pur1, Cells.pur, PV.scal, scal1, runD, rdO, PV.ids, id1, zids, ety, Eff.on, cnd, minb, and1b, ifmax, ifmin, mxv, sugI, strv, w0, w1, w2, wm1]
    repeat' (first | apply And.intro | intro _)
    any_goals (first | (refine hR17 _ ?_; clear hR17) | (first | omega | (simp only [IntKind.wrap_i64] at *; omega) | (simp_all; done) | (simp_all; omega)))
    try simp (maxSteps := 1000000) [runs, gd, step1, need, evu, un, opnds, opv, ev, cst, cst1, cstL, getT, getH, putT, onL, nxt, argT, cellsOf, PV.one, thn, inBlk, jmp, fldP, ldP, ldC, live, Cells.len, Cells.get, Cells.w, sug, ldv, bin, eqF, eq1, ops2, sh2, binv, Tk.agg, stC, apC, rdS, apS, cpC, cpS, mvL, zp, argsP, idx, fillP, toInts, chunks, mkC, ixS, ixA, oidx, slP, sl0, slA, optL, List.append, mxF, bltn, frzA, frz, frzL, frz1, pur1, Cells.pur, PV.scal, scal1, runD, rdO, PV.ids, id1, zids, ety, Eff.on, cnd, minb, and1b, ifmax, ifmin, mxv, sugI, strv, w0, w1, w2, wm1, List.take_succ_cons, List.take_zero, List.drop_succ_cons, List.drop_zero]
    repeat' (first | apply And.intro | intro _)
    any_goals (first | (refine hK15 _ ?_; clear hK15) | (first | omega | (simp only [IntKind.wrap_i64] at *; omega) | (simp_all; done) | (simp_all; omega)))
    refine swp_seq fun K18 hK18 => ?_
    refine swp_region ty_ok ?_
    refine runs_cut 3 fun R19 hR19 => ?_
    try simp (maxSteps := 1000000) [runs, gd, step1, need, evu, un, opnds, opv, ev, cst, cst1, cstL, getT, getH, putT, onL, nxt, argT, cellsOf, PV.one, thn, inBlk, jmp, fldP, ldP, ldC, live, Cells.len, Cells.get, Cells.w, sug, ldv, bin, eqF, eq1, ops2, sh2, binv, Tk.agg, stC, apC, rdS, apS, cpC, cpS, mvL, zp, argsP, idx, fillP, toInts, chunks, mkC, ixS, ixA, oidx, slP, sl0, slA, optL, List.append, mxF, bltn, frzA, frz, frzL, frz1, pur1, Cells.pur, PV.scal, scal1, runD, rdO, PV.ids, id1, zids, ety, Eff.on, cnd, minb, and1b, ifmax, ifmin, mxv, sugI, strv, w0, w1, w2, wm1, List.take_succ_cons, List.take_zero, List.drop_succ_cons, List.drop_zero]
    repeat' (first | apply And.intro | intro _)
    any_goals (first | (refine hR19 _ ?_; clear hR19) | (first | omega | (simp only [IntKind.wrap_i64] at *; omega) | (simp_all; done) | (simp_all; omega)))
    refine runs_cut 1 fun R20 hR20 => ?_
    try simp (maxSteps := 1000000) [runs, gd, step1, need, evu, un, opnds, opv, ev, cst, cst1, cstL, getT, getH, putT, onL, nxt, argT, cellsOf, PV.one, thn, inBlk, jmp, fldP, ldP, ldC, live, Cells.len, Cells.get, Cells.w, sug, ldv, bin, eqF, eq1, ops2, sh2, binv, Tk.agg, stC, apC, rdS, apS, cpC, cpS, mvL, zp, argsP, idx, fillP, toInts, chunks, mkC, ixS, ixA, oidx, slP, sl0, slA, optL, List.append, mxF, bltn, frzA, frz, frzL, frz1, pur1, Cells.pur, PV.scal, scal1, runD, rdO, PV.ids, id1, zids, ety, Eff.on, cnd, minb, and1b, ifmax, ifmin, mxv, sugI, strv, w0, w1, w2, wm1, List.take_succ_cons, List.take_zero, List.drop_succ_cons, List.drop_zero]
    refine .inl ⟨_, hgB, ?_⟩
    try simp (maxSteps := 1000000) [runs, gd, step1, need, evu, un, opnds, opv, ev, cst, cst1, cstL, getT, getH, putT, onL, nxt, argT, cellsOf, PV.one, thn, inBlk, jmp, fldP, ldP, ldC, live, Cells.len, Cells.get, Cells.w, sug, ldv, bin, eqF, eq1, ops2, sh2, binv, Tk.agg, stC, apC, rdS, apS, cpC, cpS, mvL, zp, argsP, idx, fillP, toInts, chunks, mkC, ixS, ixA, oidx, slP, sl0, slA, optL, List.append, mxF, bltn, frzA, frz, frzL, frz1, pur1, Cells.pur, PV.scal, scal1, runD, rdO, PV.ids, id1, zids, ety, Eff.on, cnd, minb, and1b, ifmax, ifmin, mxv, sugI, strv, w0, w1, w2, wm1]
    repeat' (first | apply And.intro | intro _)
    any_goals (first | (refine hR20 _ ?_; clear hR20) | (first | omega | (simp only [IntKind.wrap_i64] at *; omega) | (simp_all; done) | (simp_all; omega)))
    try simp (maxSteps := 1000000) [runs, gd, step1, need, evu, un, opnds, opv, ev, cst, cst1, cstL, getT, getH, putT, onL, nxt, argT, cellsOf, PV.one, thn, inBlk, jmp, fldP, ldP, ldC, live, Cells.len, Cells.get, Cells.w, sug, ldv, bin, eqF, eq1, ops2, sh2, binv, Tk.agg, stC, apC, rdS, apS, cpC, cpS, mvL, zp, argsP, idx, fillP, toInts, chunks, mkC, ixS, ixA, oidx, slP, sl0, slA, optL, List.append, mxF, bltn, frzA, frz, frzL, frz1, pur1, Cells.pur, PV.scal, scal1, runD, rdO, PV.ids, id1, zids, ety, Eff.on, cnd, minb, and1b, ifmax, ifmin, mxv, sugI, strv, w0, w1, w2, wm1, List.take_succ_cons, List.take_zero, List.drop_succ_cons, List.drop_zero]
    repeat' (first | apply And.intro | intro _)
    any_goals (first | (refine hK18 _ ?_; clear hK18) | (first | omega | (simp only [IntKind.wrap_i64] at *; omega) | (simp_all; done) | (simp_all; omega)))
    refine swp_seq fun K21 hK21 => ?_
    refine swp_draw ty_ok mixed (ms := [0, 0, 3, 0, 0, 31, 63, 127, 255, 511, 255, 1279, 4095, 8191, 16383, 32767, 32767, 131071, 262143, 524287, 1048575, 1048575, 4194303, 8388607, 16777215, 33554431, 33554431, 134217727, 268435455, 536870911, 1073741823, 1073741823, 4294967295, 8589934591, 17179869183, 34359738367, 68719476735, 34359738367, 274877906943, 549755813887, 1099511627775]) (by kernel_rfl) ?_
    refine runD_cut 2 fun R22 hR22 => ?_
    try simp (maxSteps := 1000000) [runs, gd, step1, need, evu, un, opnds, opv, ev, cst, cst1, cstL, getT, getH, putT, onL, nxt, argT, cellsOf, PV.one, thn, inBlk, jmp, fldP, ldP, ldC, live, Cells.len, Cells.get, Cells.w, sug, ldv, bin, eqF, eq1, ops2, sh2, binv, Tk.agg, stC, apC, rdS, apS, cpC, cpS, mvL, zp, argsP, idx, fillP, toInts, chunks, mkC, ixS, ixA, oidx, slP, sl0, slA, optL, List.append, mxF, bltn, frzA, frz, frzL, frz1, pur1, Cells.pur, PV.scal, scal1, runD, rdO, PV.ids, id1, zids, ety, Eff.on, cnd, minb, and1b, ifmax, ifmin, mxv, sugI, strv, w0, w1, w2, wm1, List.take_succ_cons, List.take_zero, List.drop_succ_cons, List.drop_zero]
    repeat' (first | apply And.intro | intro _)
    any_goals (first | (refine hR22 _ _ _ _ ?_; clear hR22) | (first | omega | (simp only [IntKind.wrap_i64] at *; omega) | (simp_all; done) | (simp_all; omega)))
    refine runD_cut 1 fun R23 hR23 => ?_
    try simp (maxSteps := 1000000) [runs, gd, step1, need, evu, un, opnds, opv, ev, cst, cst1, cstL, getT, getH, putT, onL, nxt, argT, cellsOf, PV.one, thn, inBlk, jmp, fldP, ldP, ldC, live, Cells.len, Cells.get, Cells.w, sug, ldv, bin, eqF, eq1, ops2, sh2, binv, Tk.agg, stC, apC, rdS, apS, cpC, cpS, mvL, zp, argsP, idx, fillP, toInts, chunks, mkC, ixS, ixA, oidx, slP, sl0, slA, optL, List.append, mxF, bltn, frzA, frz, frzL, frz1, pur1, Cells.pur, PV.scal, scal1, runD, rdO, PV.ids, id1, zids, ety, Eff.on, cnd, minb, and1b, ifmax, ifmin, mxv, sugI, strv, w0, w1, w2, wm1, List.take_succ_cons, List.take_zero, List.drop_succ_cons, List.drop_zero]
    refine .inl ⟨_, scheck_ok s sh m g (by omega) l (by omega) (fun w hw => by have := hlw w hw; omega), ?_⟩
    try simp (maxSteps := 1000000) [runs, gd, step1, need, evu, un, opnds, opv, ev, cst, cst1, cstL, getT, getH, putT, onL, nxt, argT, cellsOf, PV.one, thn, inBlk, jmp, fldP, ldP, ldC, live, Cells.len, Cells.get, Cells.w, sug, ldv, bin, eqF, eq1, ops2, sh2, binv, Tk.agg, stC, apC, rdS, apS, cpC, cpS, mvL, zp, argsP, idx, fillP, toInts, chunks, mkC, ixS, ixA, oidx, slP, sl0, slA, optL, List.append, mxF, bltn, frzA, frz, frzL, frz1, pur1, Cells.pur, PV.scal, scal1, runD, rdO, PV.ids, id1, zids, ety, Eff.on, cnd, minb, and1b, ifmax, ifmin, mxv, sugI, strv, w0, w1, w2, wm1]
    repeat' (first | apply And.intro | intro _)
    any_goals (first | (refine hR23 _ _ _ _ ?_; clear hR23) | (first | omega | (simp only [IntKind.wrap_i64] at *; omega) | (simp_all; done) | (simp_all; omega)))
    refine runD_cut 2 fun R24 hR24 => ?_
    try simp (maxSteps := 1000000) [runs, gd, step1, need, evu, un, opnds, opv, ev, cst, cst1, cstL, getT, getH, putT, onL, nxt, argT, cellsOf, PV.one, thn, inBlk, jmp, fldP, ldP, ldC, live, Cells.len, Cells.get, Cells.w, sug, ldv, bin, eqF, eq1, ops2, sh2, binv, Tk.agg, stC, apC, rdS, apS, cpC, cpS, mvL, zp, argsP, idx, fillP, toInts, chunks, mkC, ixS, ixA, oidx, slP, sl0, slA, optL, List.append, mxF, bltn, frzA, frz, frzL, frz1, pur1, Cells.pur, PV.scal, scal1, runD, rdO, PV.ids, id1, zids, ety, Eff.on, cnd, minb, and1b, ifmax, ifmin, mxv, sugI, strv, w0, w1, w2, wm1, List.take_succ_cons, List.take_zero, List.drop_succ_cons, List.drop_zero]
    repeat' (first | apply And.intro | intro _)
    any_goals (first | (refine hR24 _ _ _ _ ?_; clear hR24) | (first | omega | (simp only [IntKind.wrap_i64] at *; omega) | (simp_all; done) | (simp_all; omega)))
    refine runD_cut 1 fun R25 hR25 => ?_
    try simp (maxSteps := 1000000) [runs, gd, step1, need, evu, un, opnds, opv, ev, cst, cst1, cstL, getT, getH, putT, onL, nxt, argT, cellsOf, PV.one, thn, inBlk, jmp, fldP, ldP, ldC, live, Cells.len, Cells.get, Cells.w, sug, ldv, bin, eqF, eq1, ops2, sh2, binv, Tk.agg, stC, apC, rdS, apS, cpC, cpS, mvL, zp, argsP, idx, fillP, toInts, chunks, mkC, ixS, ixA, oidx, slP, sl0, slA, optL, List.append, mxF, bltn, frzA, frz, frzL, frz1, pur1, Cells.pur, PV.scal, scal1, runD, rdO, PV.ids, id1, zids, ety, Eff.on, cnd, minb, and1b, ifmax, ifmin, mxv, sugI, strv, w0, w1, w2, wm1, List.take_succ_cons, List.take_zero, List.drop_succ_cons, List.drop_zero]
    refine .inl ⟨_, rcheck_ok s sh m g (by omega) l (by omega) (fun w hw => by have := hlw w hw; omega), ?_⟩
    try simp (maxSteps := 1000000) [runs, gd, step1, need, evu, un, opnds, opv, ev, cst, cst1, cstL, getT, getH, putT, onL, nxt, argT, cellsOf, PV.one, thn, inBlk, jmp, fldP, ldP, ldC, live, Cells.len, Cells.get, Cells.w, sug, ldv, bin, eqF, eq1, ops2, sh2, binv, Tk.agg, stC, apC, rdS, apS, cpC, cpS, mvL, zp, argsP, idx, fillP, toInts, chunks, mkC, ixS, ixA, oidx, slP, sl0, slA, optL, List.append, mxF, bltn, frzA, frz, frzL, frz1, pur1, Cells.pur, PV.scal, scal1, runD, rdO, PV.ids, id1, zids, ety, Eff.on, cnd, minb, and1b, ifmax, ifmin, mxv, sugI, strv, w0, w1, w2, wm1]
    repeat' (first | apply And.intro | intro _)
    any_goals (first | (refine hR25 _ _ _ _ ?_; clear hR25) | (first | omega | (simp only [IntKind.wrap_i64] at *; omega) | (simp_all; done) | (simp_all; omega)))
    refine runD_cut 8 fun R26 hR26 => ?_
    try simp (maxSteps := 1000000) [runs, gd, step1, need, evu, un, opnds, opv, ev, cst, cst1, cstL, getT, getH, putT, onL, nxt, argT, cellsOf, PV.one, thn, inBlk, jmp, fldP, ldP, ldC, live, Cells.len, Cells.get, Cells.w, sug, ldv, bin, eqF, eq1, ops2, sh2, binv, Tk.agg, stC, apC, rdS, apS, cpC, cpS, mvL, zp, argsP, idx, fillP, toInts, chunks, mkC, ixS, ixA, oidx, slP, sl0, slA, optL, List.append, mxF, bltn, frzA, frz, frzL, frz1, pur1, Cells.pur, PV.scal, scal1, runD, rdO, PV.ids, id1, zids, ety, Eff.on, cnd, minb, and1b, ifmax, ifmin, mxv, sugI, strv, w0, w1, w2, wm1, List.take_succ_cons, List.take_zero, List.drop_succ_cons, List.drop_zero]
    repeat' (first | apply And.intro | intro _)
    any_goals (first | (refine hR26 _ _ _ _ ?_; clear hR26) | (first | omega | (simp only [IntKind.wrap_i64] at *; omega) | (simp_all; done) | (simp_all; omega)))
    refine runD_cut 8 fun R27 hR27 => ?_
    try simp (maxSteps := 1000000) [runs, gd, step1, need, evu, un, opnds, opv, ev, cst, cst1, cstL, getT, getH, putT, onL, nxt, argT, cellsOf, PV.one, thn, inBlk, jmp, fldP, ldP, ldC, live, Cells.len, Cells.get, Cells.w, sug, ldv, bin, eqF, eq1, ops2, sh2, binv, Tk.agg, stC, apC, rdS, apS, cpC, cpS, mvL, zp, argsP, idx, fillP, toInts, chunks, mkC, ixS, ixA, oidx, slP, sl0, slA, optL, List.append, mxF, bltn, frzA, frz, frzL, frz1, pur1, Cells.pur, PV.scal, scal1, runD, rdO, PV.ids, id1, zids, ety, Eff.on, cnd, minb, and1b, ifmax, ifmin, mxv, sugI, strv, w0, w1, w2, wm1, List.take_succ_cons, List.take_zero, List.drop_succ_cons, List.drop_zero]
    repeat' (first | apply And.intro | intro _)
    any_goals (first | (refine hR27 _ _ _ _ ?_; clear hR27) | (first | omega | (simp only [IntKind.wrap_i64] at *; omega) | (simp_all; done) | (simp_all; omega)))
    refine runD_cut 1 fun R28 hR28 => ?_
    try simp (maxSteps := 1000000) [runs, gd, step1, need, evu, un, opnds, opv, ev, cst, cst1, cstL, getT, getH, putT, onL, nxt, argT, cellsOf, PV.one, thn, inBlk, jmp, fldP, ldP, ldC, live, Cells.len, Cells.get, Cells.w, sug, ldv, bin, eqF, eq1, ops2, sh2, binv, Tk.agg, stC, apC, rdS, apS, cpC, cpS, mvL, zp, argsP, idx, fillP, toInts, chunks, mkC, ixS, ixA, oidx, slP, sl0, slA, optL, List.append, mxF, bltn, frzA, frz, frzL, frz1, pur1, Cells.pur, PV.scal, scal1, runD, rdO, PV.ids, id1, zids, ety, Eff.on, cnd, minb, and1b, ifmax, ifmin, mxv, sugI, strv, w0, w1, w2, wm1, List.take_succ_cons, List.take_zero, List.drop_succ_cons, List.drop_zero]
    first | refine ⟨_, fun hb => .inl ⟨rsameS_ok V V (by omega) (fun w hw => by have := hv2 w hw; omega), rfl⟩, ?_⟩ | refine ⟨_, .inl ⟨rsameS_ok V V (by omega) (fun w hw => by have := hv2 w hw; omega), rfl⟩, ?_⟩ | refine ⟨_, fun hb => .inl (rsameS_ok V V (by omega) (fun w hw => by have := hv2 w hw; omega)), ?_⟩ | refine ⟨_, .inl (rsameS_ok V V (by omega) (fun w hw => by have := hv2 w hw; omega)), ?_⟩ | refine ⟨_, by (intros; exact Or.inl (rsameS_ok V V (by omega) (fun w hw => by have := hv2 w hw; omega))), ?_⟩ | refine ⟨_, by (intros; exact Or.inl ⟨rsameS_ok V V (by omega) (fun w hw => by have := hv2 w hw; omega), rfl⟩), ?_⟩ | refine ⟨_, fun hb => .inl ⟨_, rsameS_ok V V (by omega) (fun w hw => by have := hv2 w hw; omega), by (try simp [runs, gd, step1, need, evu, un, opnds, opv, ev, cst, cst1, cstL, getT, getH, putT, onL, nxt, argT, cellsOf, PV.one, thn, inBlk, jmp, fldP, ldP, ldC, live, Cells.len, Cells.get, Cells.w, sug, ldv, bin, eqF, eq1, ops2, sh2, binv, Tk.agg, stC, apC, rdS, apS, cpC, cpS, mvL, zp, argsP, idx, fillP, toInts, chunks, mkC, ixS, ixA, oidx, slP, sl0, slA, optL, List.append, mxF, bltn, frzA, frz, frzL, frz1, pur1, Cells.pur, PV.scal, scal1, runD, rdO, PV.ids, id1, zids, ety, Eff.on, cnd, minb, and1b, ifmax, ifmin, mxv, sugI, strv, w0, w1, w2, wm1]); exact ⟨rfl, rfl⟩⟩, ?_⟩
    repeat' (first | apply And.intro | intro _)
    any_goals (first | (refine hR28 _ _ _ _ ?_; clear hR28) | (first | omega | (simp only [IntKind.wrap_i64] at *; omega) | (simp_all; done) | (simp_all; omega)))
    refine runD_cut 9 fun R29 hR29 => ?_
    try simp (maxSteps := 1000000) [runs, gd, step1, need, evu, un, opnds, opv, ev, cst, cst1, cstL, getT, getH, putT, onL, nxt, argT, cellsOf, PV.one, thn, inBlk, jmp, fldP, ldP, ldC, live, Cells.len, Cells.get, Cells.w, sug, ldv, bin, eqF, eq1, ops2, sh2, binv, Tk.agg, stC, apC, rdS, apS, cpC, cpS, mvL, zp, argsP, idx, fillP, toInts, chunks, mkC, ixS, ixA, oidx, slP, sl0, slA, optL, List.append, mxF, bltn, frzA, frz, frzL, frz1, pur1, Cells.pur, PV.scal, scal1, runD, rdO, PV.ids, id1, zids, ety, Eff.on, cnd, minb, and1b, ifmax, ifmin, mxv, sugI, strv, w0, w1, w2, wm1, List.take_succ_cons, List.take_zero, List.drop_succ_cons, List.drop_zero]
    repeat' (first | apply And.intro | intro _)
    any_goals (first | (refine hR29 _ _ _ _ ?_; clear hR29) | (first | omega | (simp only [IntKind.wrap_i64] at *; omega) | (simp_all; done) | (simp_all; omega)))
    try simp (maxSteps := 1000000) [runs, gd, step1, need, evu, un, opnds, opv, ev, cst, cst1, cstL, getT, getH, putT, onL, nxt, argT, cellsOf, PV.one, thn, inBlk, jmp, fldP, ldP, ldC, live, Cells.len, Cells.get, Cells.w, sug, ldv, bin, eqF, eq1, ops2, sh2, binv, Tk.agg, stC, apC, rdS, apS, cpC, cpS, mvL, zp, argsP, idx, fillP, toInts, chunks, mkC, ixS, ixA, oidx, slP, sl0, slA, optL, List.append, mxF, bltn, frzA, frz, frzL, frz1, pur1, Cells.pur, PV.scal, scal1, runD, rdO, PV.ids, id1, zids, ety, Eff.on, cnd, minb, and1b, ifmax, ifmin, mxv, sugI, strv, w0, w1, w2, wm1, List.take_succ_cons, List.take_zero, List.drop_succ_cons, List.drop_zero]
    repeat' (first | apply And.intro | intro _)
    any_goals (first | kernel_rfl | (refine hK21 _ ?_; clear hK21) | (first | omega | (simp only [IntKind.wrap_i64] at *; omega) | (simp_all; done) | (simp_all; omega)))
    refine swp_ret ?_
    simp [runs, gd, step1, need, evu, un, opnds, opv, ev, cst, cst1, cstL, getT, getH, putT, onL, nxt, argT, cellsOf, PV.one, thn, inBlk, jmp, fldP, ldP, ldC, live, Cells.len, Cells.get, Cells.w, sug, ldv, bin, eqF, eq1, ops2, sh2, binv, Tk.agg, stC, apC, rdS, apS, cpC, cpS, mvL, zp, argsP, idx, fillP, toInts, chunks, mkC, ixS, ixA, oidx, slP, sl0, slA, optL, List.append, mxF, bltn, frzA, frz, frzL, frz1, pur1, Cells.pur, PV.scal, scal1, runD, rdO, PV.ids, id1, zids, ety, Eff.on, cnd, minb, and1b, ifmax, ifmin, mxv, sugI, strv, w0, w1, w2, wm1, fnPost, Try.results11, resP, tupOf]

end Go.Proofs.Ytkhjiabenifplaa

