import Derived.Test.YtmkgfgdipkagbaaWb
import Derived.Test.YtmkgfgdipkagbaaTyl
import Derived.Test.YtmkgfgdipkagbaaPvy
import Derived.Test.YtmkgfgdipkagbaaLband
import Derived.Test.YtmkgfgdipkagbaaLinfo
import Derived.Test.YtmkgfgdipkagbaaLinfo2
import Derived.Test.YtmkgfgdipkagbaaLbits
import Derived.Test.YtmkgfgdipkagbaaLtns
import Derived.Test.YtmkgfgdipkagbaaLtnp
import Derived.Test.YtmkgfgdipkagbaaLtnl
import Derived.Test.YtmkgfgdipkagbaaLlan
import Derived.Test.YtmkgfgdipkagbaaLlan2
import Derived.Test.YtmkgfgdipkagbaaLlan3
import Derived.Test.YtmkgfgdipkagbaaLlan4
import Derived.Test.YtmkgfgdipkagbaaLlan5
import Derived.Test.YtmkgfgdipkagbaaLlan6
import Derived.Test.YtmkgfgdipkagbaaLlan8
import Derived.Test.YtmkgfgdipkagbaaLlan10
import Derived.Test.YtmkgfgdipkagbaaLlan11
namespace Go.Proofs.Ytmkgfgdipkagbaa
set_option linter.unusedVariables false
set_option linter.unusedSimpArgs false
set_option maxRecDepth 10000
open Go Go.Pv


open Go.RowKit
theorem m_bd {rate s sh m : Int} {g : List Int} (hr : 0 ≤ rate ∧ rate ≤ 11) (h : mayI rate s sh m g = true) : (0 ≤ m ∧ m ≤ 40) ∧ mayI 11 s sh m g = true ∧ maN s = winI s sh m g := by
  have h1 : chI rate s sh m g = 0 := by rw [chI_may (by omega), h]; rfl
  obtain ⟨_, _, _, h4, h5, _, _, h8⟩ := chI_zero h1
  have := MB40 rate (decide (s = 2))
  exact ⟨by omega, h8, by rw [winI, if_pos h8]; rfl⟩
theorem secB_all2 {m : Int} {g : List Int} {se : List (List Sc)} (h : secB m g se = true) : se.length = g.length ∧ ∀ w ∈ se, secL m w = true := by
  unfold secB at h
  rw [Bool.and_eq_true, decide_eq_true_eq, List.all_eq_true] at h
  exact h
def mayB (rate ga s sh m : Int) (g : List Int) (se : List (List Sc)) (st : List (List Int)) (tn : List (List Fl)) (ln : List Int) : Bool :=
  mayI rate s sh m g && decide (0 ≤ ga) && decide (ga ≤ 255) && secB m g se && stpB ga m g se st && filA s (maN s) tn && linC rate s m g se ln
theorem mayB_y {rate ga s sh m : Int} {g : List Int} {se : List (List Sc)} {st : List (List Int)} {tn : List (List Fl)} {ln : List Int} (hr : 0 ≤ rate ∧ rate ≤ 11) (h : mayB rate ga s sh m g se st tn ln = true) : chL rate ga s sh m g se st tn ln = 0 := by
  unfold mayB at h
  simp only [Bool.and_eq_true, decide_eq_true_eq] at h
  obtain ⟨⟨⟨⟨⟨⟨h1, h2⟩, h3⟩, h4⟩, h5⟩, h6⟩, h7⟩ := h
  obtain ⟨_, h9, h10⟩ := m_bd hr h1
  have hi : chI rate s sh m g = 0 := by rw [chI_may (by omega), h1]; rfl
  unfold chL
  rw [if_pos hi, if_pos ⟨by rw [decide_eq_true h2, decide_eq_true h3]; rfl, h4, h5, by rw [← h10]; exact h6, h7⟩]
theorem mayB_n {rate ga s sh m : Int} {g : List Int} {se : List (List Sc)} {st : List (List Int)} {tn : List (List Fl)} {ln : List Int} (hr : 0 ≤ rate ∧ rate ≤ 11) (h : mayB rate ga s sh m g se st tn ln = false) : chL rate ga s sh m g se st tn ln = 8 := by
  cases hm : mayI rate s sh m g with
  | false =>
    have hi : chI rate s sh m g = 8 := by rw [chI_may (by omega), hm]; rfl
    unfold chL
    rw [if_neg (by omega), hi]
  | true =>
    obtain ⟨_, h9, h10⟩ := m_bd hr hm
    have hi : chI rate s sh m g = 0 := by rw [chI_may (by omega), hm]; rfl
    unfold chL
    rw [if_pos hi, if_neg]
    rintro ⟨k1, k2, k3, k4, k5⟩
    unfold mayB at h
    rw [Bool.and_eq_true] at k1
    rw [hm, k1.1, k1.2, k2, k3, h10, k4, k5] at h
    cases h
theorem chL_rate {rate ga s sh m : Int} {g : List Int} {se : List (List Sc)} {st : List (List Int)} {tn : List (List Fl)} {ln : List Int} (hr : rate < 0 ∨ 11 < rate) : chL rate ga s sh m g se st tn ln = 2 := by
  have hi : chI rate s sh m g = 2 := chI_no hr
  unfold chL
  rw [if_neg (by omega), hi]
theorem same_y {ga s sh m : Int} {g ln : List Int} {se : List (List Sc)} {st : List (List Int)} {tn : List (List Fl)} : (decide (ga = ga) && (decide (s = s) && decide (sh = sh) && decide (m = m) && decide (g = g)) && decide (ln = ln) && (decide (se = se) && decide (st = st)) && decide (tn = tn)) = true := by simp

theorem mayL_any (rate : Int) (ga s sh m : Int) (g : List Int) (se : List (List Sc)) (st : List (List Int)) (tn : List (List Fl)) (ln : List Int) (hr : 0 ≤ rate ∧ rate ≤ 11) (hm11 : mayI 11 s sh m g = true) (hx : g.length ≤ 1000) (hg : se.length = g.length) (hs : ∀ w ∈ se, secL m w = true) (hm : 0 ≤ m ∧ m ≤ 40) : PCall Try.prog 104 [.int .i64 rate, .agg [.int .i64 ga, .int .u8 s, .int .u8 sh, .int .i64 m, .ro (.ints .i64 g), .ro (.rows 1 (se.map fun w => [.ro (.rows 2 (w.map Sc.row))])), .ro (.rows 1 (st.map fun w => [.ro (.ints .i64 w)])), .ro (.rows 1 (tn.map fun w => [.ro (.rows 5 (w.map Fl.row))])), .ro (.ints .i64 ln)]] (.bool (linC rate s m g se ln)) := by
  by_cases h : s = 2
  · have hw : winI s sh m g = 8 := by rw [winI, if_pos hm11, if_pos h]
    rw [linC, if_pos h]
    subst h
    exact mayL_s rate ga sh m g se st tn ln hr hm11 hw hx hg hs hm
  · have hw : winI s sh m g = 1 := by rw [winI, if_pos hm11, if_neg h]
    rw [linC, if_neg h]
    exact mayL_l rate ga s sh m g se st tn ln hr h hm11 hw hx hg hs hm

set_option maxHeartbeats 8000000 in
theorem may_ok (rate : Int) (ga s sh m : Int) (g : List Int) (se : List (List Sc)) (st : List (List Int)) (tn : List (List Fl)) (ln : List Int) (hl : LenOk g se st tn) (hr : 0 ≤ rate ∧ rate ≤ 11) : PCall Try.prog 79 [.int .i64 rate, .agg [.int .i64 ga, .int .u8 s, .int .u8 sh, .int .i64 m, .ro (.ints .i64 g), .ro (.rows 1 (se.map fun w => [.ro (.rows 2 (w.map Sc.row))])), .ro (.rows 1 (st.map fun w => [.ro (.ints .i64 w)])), .ro (.rows 1 (tn.map fun w => [.ro (.rows 5 (w.map Fl.row))])), .ro (.ints .i64 ln)]] (.bool (mayB rate ga s sh m g se st tn ln)) := by
  have hlk := hl
  obtain ⟨⟨hl1, hl2, hl3, hl4⟩, hl5, hl6, hl7⟩ := hl
  refine pcall_body ty_ok Try.func79 rfl (by rfl) (by simp) ?_
  rw [Try.ntmps79]
  refine swp_seq fun K1 hK1 => ?_
  refine swp_region ty_ok ?_
  try simp (maxSteps := 1000000) [runs, gd, step1, need, evu, un, opnds, opv, ev, cst, cst1, cstL, getT, getH, putT, onL, nxt, argT, cellsOf, PV.one, thn, inBlk, jmp, fldP, ldP, ldC, live, Cells.len, Cells.get, Cells.w, sug, ldv, bin, eqF, eq1, ops2, sh2, binv, Tk.agg, stC, apC, rdS, apS, mvL, zp, argsP, idx, fillP, toInts, chunks, mkC, ixS, ixA, oidx, slP, sl0, mxF, bltn, frzA, frz, frzL, frz1, pur1, Cells.pur, PV.scal, scal1, runD, rdO, PV.ids, id1, zids, ety, Eff.on, cnd, minb, and1b, ifmax, ifmin, mxv, sugI, strv, w0, w1, w2, wm1]
  repeat' (first | apply And.intro | intro _)
  any_goals (first | (refine hK1 _ ?_; clear hK1) | (first | omega | (simp only [IntKind.wrap_i64] at *; omega) | (simp_all; done) | (simp_all; omega)))
  refine swp_seq fun K2 hK2 => ?_
  refine swp_region ty_ok ?_
  refine runs_cut 3 fun R3 hR3 => ?_
  try simp (maxSteps := 1000000) [runs, gd, step1, need, evu, un, opnds, opv, ev, cst, cst1, cstL, getT, getH, putT, onL, nxt, argT, cellsOf, PV.one, thn, inBlk, jmp, fldP, ldP, ldC, live, Cells.len, Cells.get, Cells.w, sug, ldv, bin, eqF, eq1, ops2, sh2, binv, Tk.agg, stC, apC, rdS, apS, mvL, zp, argsP, idx, fillP, toInts, chunks, mkC, ixS, ixA, oidx, slP, sl0, mxF, bltn, frzA, frz, frzL, frz1, pur1, Cells.pur, PV.scal, scal1, runD, rdO, PV.ids, id1, zids, ety, Eff.on, cnd, minb, and1b, ifmax, ifmin, mxv, sugI, strv, w0, w1, w2, wm1, List.take_succ_cons, List.take_zero, List.drop_succ_cons, List.drop_zero]
  repeat' (first | apply And.intro | intro _)
  any_goals (first | (refine hR3 _ ?_; clear hR3) | (first | omega | (simp only [IntKind.wrap_i64] at *; omega) | (simp_all; done) | (simp_all; omega)))
  refine runs_cut 1 fun R4 hR4 => ?_
  try simp (maxSteps := 1000000) [runs, gd, step1, need, evu, un, opnds, opv, ev, cst, cst1, cstL, getT, getH, putT, onL, nxt, argT, cellsOf, PV.one, thn, inBlk, jmp, fldP, ldP, ldC, live, Cells.len, Cells.get, Cells.w, sug, ldv, bin, eqF, eq1, ops2, sh2, binv, Tk.agg, stC, apC, rdS, apS, mvL, zp, argsP, idx, fillP, toInts, chunks, mkC, ixS, ixA, oidx, slP, sl0, mxF, bltn, frzA, frz, frzL, frz1, pur1, Cells.pur, PV.scal, scal1, runD, rdO, PV.ids, id1, zids, ety, Eff.on, cnd, minb, and1b, ifmax, ifmin, mxv, sugI, strv, w0, w1, w2, wm1, List.take_succ_cons, List.take_zero, List.drop_succ_cons, List.drop_zero]
  refine .inl ⟨_, reedpiperef10_May_ok rate s sh m g (by omega), ?_⟩
  try simp (maxSteps := 1000000) [runs, gd, step1, need, evu, un, opnds, opv, ev, cst, cst1, cstL, getT, getH, putT, onL, nxt, argT, cellsOf, PV.one, thn, inBlk, jmp, fldP, ldP, ldC, live, Cells.len, Cells.get, Cells.w, sug, ldv, bin, eqF, eq1, ops2, sh2, binv, Tk.agg, stC, apC, rdS, apS, mvL, zp, argsP, idx, fillP, toInts, chunks, mkC, ixS, ixA, oidx, slP, sl0, mxF, bltn, frzA, frz, frzL, frz1, pur1, Cells.pur, PV.scal, scal1, runD, rdO, PV.ids, id1, zids, ety, Eff.on, cnd, minb, and1b, ifmax, ifmin, mxv, sugI, strv, w0, w1, w2, wm1]
  repeat' (first | apply And.intro | intro _)
  any_goals (first | (refine hR4 _ ?_; clear hR4) | (first | omega | (simp only [IntKind.wrap_i64] at *; omega) | (simp_all; done) | (simp_all; omega)))
  refine runs_cut 7 fun R5 hR5 => ?_
  try simp (maxSteps := 1000000) [runs, gd, step1, need, evu, un, opnds, opv, ev, cst, cst1, cstL, getT, getH, putT, onL, nxt, argT, cellsOf, PV.one, thn, inBlk, jmp, fldP, ldP, ldC, live, Cells.len, Cells.get, Cells.w, sug, ldv, bin, eqF, eq1, ops2, sh2, binv, Tk.agg, stC, apC, rdS, apS, mvL, zp, argsP, idx, fillP, toInts, chunks, mkC, ixS, ixA, oidx, slP, sl0, mxF, bltn, frzA, frz, frzL, frz1, pur1, Cells.pur, PV.scal, scal1, runD, rdO, PV.ids, id1, zids, ety, Eff.on, cnd, minb, and1b, ifmax, ifmin, mxv, sugI, strv, w0, w1, w2, wm1, List.take_succ_cons, List.take_zero, List.drop_succ_cons, List.drop_zero]
  repeat' (first | apply And.intro | intro _)
  any_goals (first | (refine hR5 _ ?_; clear hR5) | (first | omega | (simp only [IntKind.wrap_i64] at *; omega) | (simp_all; done) | (simp_all; omega)))
  refine runs_cut 8 fun R6 hR6 => ?_
  try simp (maxSteps := 1000000) [runs, gd, step1, need, evu, un, opnds, opv, ev, cst, cst1, cstL, getT, getH, putT, onL, nxt, argT, cellsOf, PV.one, thn, inBlk, jmp, fldP, ldP, ldC, live, Cells.len, Cells.get, Cells.w, sug, ldv, bin, eqF, eq1, ops2, sh2, binv, Tk.agg, stC, apC, rdS, apS, mvL, zp, argsP, idx, fillP, toInts, chunks, mkC, ixS, ixA, oidx, slP, sl0, mxF, bltn, frzA, frz, frzL, frz1, pur1, Cells.pur, PV.scal, scal1, runD, rdO, PV.ids, id1, zids, ety, Eff.on, cnd, minb, and1b, ifmax, ifmin, mxv, sugI, strv, w0, w1, w2, wm1, List.take_succ_cons, List.take_zero, List.drop_succ_cons, List.drop_zero]
  repeat' (first | apply And.intro | intro _)
  any_goals (first | (refine hR6 _ ?_; clear hR6) | (first | omega | (simp only [IntKind.wrap_i64] at *; omega) | (simp_all; done) | (simp_all; omega)))
  refine runs_cut 1 fun R7 hR7 => ?_
  try simp (maxSteps := 1000000) [runs, gd, step1, need, evu, un, opnds, opv, ev, cst, cst1, cstL, getT, getH, putT, onL, nxt, argT, cellsOf, PV.one, thn, inBlk, jmp, fldP, ldP, ldC, live, Cells.len, Cells.get, Cells.w, sug, ldv, bin, eqF, eq1, ops2, sh2, binv, Tk.agg, stC, apC, rdS, apS, mvL, zp, argsP, idx, fillP, toInts, chunks, mkC, ixS, ixA, oidx, slP, sl0, mxF, bltn, frzA, frz, frzL, frz1, pur1, Cells.pur, PV.scal, scal1, runD, rdO, PV.ids, id1, zids, ety, Eff.on, cnd, minb, and1b, ifmax, ifmin, mxv, sugI, strv, w0, w1, w2, wm1, List.take_succ_cons, List.take_zero, List.drop_succ_cons, List.drop_zero]
  first | refine .inl ⟨_, by (intros; exact Or.inl (mayS_ok s sh m g se (m_bd (s := s) (sh := sh) (g := g) hr (by simp_all)).1 hl2 hl5)), ?_⟩
  repeat' (first | apply And.intro | intro _)
  any_goals (first | (refine hR7 _ ?_; clear hR7) | (first | omega | (simp only [IntKind.wrap_i64] at *; omega) | (simp_all; done) | (simp_all; omega)))
  refine runs_cut 8 fun R8 hR8 => ?_
  try simp (maxSteps := 1000000) [runs, gd, step1, need, evu, un, opnds, opv, ev, cst, cst1, cstL, getT, getH, putT, onL, nxt, argT, cellsOf, PV.one, thn, inBlk, jmp, fldP, ldP, ldC, live, Cells.len, Cells.get, Cells.w, sug, ldv, bin, eqF, eq1, ops2, sh2, binv, Tk.agg, stC, apC, rdS, apS, mvL, zp, argsP, idx, fillP, toInts, chunks, mkC, ixS, ixA, oidx, slP, sl0, mxF, bltn, frzA, frz, frzL, frz1, pur1, Cells.pur, PV.scal, scal1, runD, rdO, PV.ids, id1, zids, ety, Eff.on, cnd, minb, and1b, ifmax, ifmin, mxv, sugI, strv, w0, w1, w2, wm1, List.take_succ_cons, List.take_zero, List.drop_succ_cons, List.drop_zero]
  repeat' (first | apply And.intro | intro _)
  any_goals (first | (refine hR8 _ ?_; clear hR8) | (first | omega | (simp only [IntKind.wrap_i64] at *; omega) | (simp_all; done) | (simp_all; omega)))
  refine runs_cut 1 fun R9 hR9 => ?_
  try simp (maxSteps := 1000000) [runs, gd, step1, need, evu, un, opnds, opv, ev, cst, cst1, cstL, getT, getH, putT, onL, nxt, argT, cellsOf, PV.one, thn, inBlk, jmp, fldP, ldP, ldC, live, Cells.len, Cells.get, Cells.w, sug, ldv, bin, eqF, eq1, ops2, sh2, binv, Tk.agg, stC, apC, rdS, apS, mvL, zp, argsP, idx, fillP, toInts, chunks, mkC, ixS, ixA, oidx, slP, sl0, mxF, bltn, frzA, frz, frzL, frz1, pur1, Cells.pur, PV.scal, scal1, runD, rdO, PV.ids, id1, zids, ety, Eff.on, cnd, minb, and1b, ifmax, ifmin, mxv, sugI, strv, w0, w1, w2, wm1, List.take_succ_cons, List.take_zero, List.drop_succ_cons, List.drop_zero]
  first | refine .inl ⟨_, by (intros; exact Or.inl (maySt_ok ga m g se st (secB_all2 (m := m) (by simp_all)).1 ⟨hl1, hl3⟩ (secB_all2 (m := m) (g := g) (by simp_all)).2 hl6 (by simp_all) (m_bd (s := s) (sh := sh) (g := g) hr (by simp_all)).1)), ?_⟩
  repeat' (first | apply And.intro | intro _)
  any_goals (first | (refine hR9 _ ?_; clear hR9) | (first | omega | (simp only [IntKind.wrap_i64] at *; omega) | (simp_all; done) | (simp_all; omega)))
  refine runs_cut 6 fun R10 hR10 => ?_
  try simp (maxSteps := 1000000) [runs, gd, step1, need, evu, un, opnds, opv, ev, cst, cst1, cstL, getT, getH, putT, onL, nxt, argT, cellsOf, PV.one, thn, inBlk, jmp, fldP, ldP, ldC, live, Cells.len, Cells.get, Cells.w, sug, ldv, bin, eqF, eq1, ops2, sh2, binv, Tk.agg, stC, apC, rdS, apS, mvL, zp, argsP, idx, fillP, toInts, chunks, mkC, ixS, ixA, oidx, slP, sl0, mxF, bltn, frzA, frz, frzL, frz1, pur1, Cells.pur, PV.scal, scal1, runD, rdO, PV.ids, id1, zids, ety, Eff.on, cnd, minb, and1b, ifmax, ifmin, mxv, sugI, strv, w0, w1, w2, wm1, List.take_succ_cons, List.take_zero, List.drop_succ_cons, List.drop_zero]
  repeat' (first | apply And.intro | intro _)
  any_goals (first | (refine hR10 _ ?_; clear hR10) | (first | omega | (simp only [IntKind.wrap_i64] at *; omega) | (simp_all; done) | (simp_all; omega)))
  refine runs_cut 1 fun R11 hR11 => ?_
  try simp (maxSteps := 1000000) [runs, gd, step1, need, evu, un, opnds, opv, ev, cst, cst1, cstL, getT, getH, putT, onL, nxt, argT, cellsOf, PV.one, thn, inBlk, jmp, fldP, ldP, ldC, live, Cells.len, Cells.get, Cells.w, sug, ldv, bin, eqF, eq1, ops2, sh2, binv, Tk.agg, stC, apC, rdS, apS, mvL, zp, argsP, idx, fillP, toInts, chunks, mkC, ixS, ixA, oidx, slP, sl0, mxF, bltn, frzA, frz, frzL, frz1, pur1, Cells.pur, PV.scal, scal1, runD, rdO, PV.ids, id1, zids, ety, Eff.on, cnd, minb, and1b, ifmax, ifmin, mxv, sugI, strv, w0, w1, w2, wm1, List.take_succ_cons, List.take_zero, List.drop_succ_cons, List.drop_zero]
  first | refine .inl ⟨_, by (intros; exact Or.inl (mayT_ok s sh m g tn hl1 hl4 hl7)), ?_⟩
  repeat' (first | apply And.intro | intro _)
  any_goals (first | (refine hR11 _ ?_; clear hR11) | (first | omega | (simp only [IntKind.wrap_i64] at *; omega) | (simp_all; done) | (simp_all; omega)))
  refine runs_cut 4 fun R12 hR12 => ?_
  try simp (maxSteps := 1000000) [runs, gd, step1, need, evu, un, opnds, opv, ev, cst, cst1, cstL, getT, getH, putT, onL, nxt, argT, cellsOf, PV.one, thn, inBlk, jmp, fldP, ldP, ldC, live, Cells.len, Cells.get, Cells.w, sug, ldv, bin, eqF, eq1, ops2, sh2, binv, Tk.agg, stC, apC, rdS, apS, mvL, zp, argsP, idx, fillP, toInts, chunks, mkC, ixS, ixA, oidx, slP, sl0, mxF, bltn, frzA, frz, frzL, frz1, pur1, Cells.pur, PV.scal, scal1, runD, rdO, PV.ids, id1, zids, ety, Eff.on, cnd, minb, and1b, ifmax, ifmin, mxv, sugI, strv, w0, w1, w2, wm1, List.take_succ_cons, List.take_zero, List.drop_succ_cons, List.drop_zero]
  repeat' (first | apply And.intro | intro _)
  any_goals (first | (refine hR12 _ ?_; clear hR12) | (first | omega | (simp only [IntKind.wrap_i64] at *; omega) | (simp_all; done) | (simp_all; omega)))
  refine runs_cut 1 fun R13 hR13 => ?_
  try simp (maxSteps := 1000000) [runs, gd, step1, need, evu, un, opnds, opv, ev, cst, cst1, cstL, getT, getH, putT, onL, nxt, argT, cellsOf, PV.one, thn, inBlk, jmp, fldP, ldP, ldC, live, Cells.len, Cells.get, Cells.w, sug, ldv, bin, eqF, eq1, ops2, sh2, binv, Tk.agg, stC, apC, rdS, apS, mvL, zp, argsP, idx, fillP, toInts, chunks, mkC, ixS, ixA, oidx, slP, sl0, mxF, bltn, frzA, frz, frzL, frz1, pur1, Cells.pur, PV.scal, scal1, runD, rdO, PV.ids, id1, zids, ety, Eff.on, cnd, minb, and1b, ifmax, ifmin, mxv, sugI, strv, w0, w1, w2, wm1, List.take_succ_cons, List.take_zero, List.drop_succ_cons, List.drop_zero]
  first | refine .inl ⟨_, by (intros; exact Or.inl (mayL_any rate ga s sh m g se st tn ln hr (m_bd hr (by simp_all)).2.1 hl1 (secB_all2 (m := m) (by simp_all)).1 (secB_all2 (m := m) (g := g) (by simp_all)).2 (m_bd (s := s) (sh := sh) (g := g) hr (by simp_all)).1)), ?_⟩
  repeat' (first | apply And.intro | intro _)
  any_goals (first | (refine hR13 _ ?_; clear hR13) | (first | omega | (simp only [IntKind.wrap_i64] at *; omega) | (simp_all; done) | (simp_all; omega)))
  try simp (maxSteps := 1000000) [runs, gd, step1, need, evu, un, opnds, opv, ev, cst, cst1, cstL, getT, getH, putT, onL, nxt, argT, cellsOf, PV.one, thn, inBlk, jmp, fldP, ldP, ldC, live, Cells.len, Cells.get, Cells.w, sug, ldv, bin, eqF, eq1, ops2, sh2, binv, Tk.agg, stC, apC, rdS, apS, mvL, zp, argsP, idx, fillP, toInts, chunks, mkC, ixS, ixA, oidx, slP, sl0, mxF, bltn, frzA, frz, frzL, frz1, pur1, Cells.pur, PV.scal, scal1, runD, rdO, PV.ids, id1, zids, ety, Eff.on, cnd, minb, and1b, ifmax, ifmin, mxv, sugI, strv, w0, w1, w2, wm1, List.take_succ_cons, List.take_zero, List.drop_succ_cons, List.drop_zero]
  repeat' (first | apply And.intro | intro _)
  any_goals (first | (refine hK2 _ ?_; clear hK2) | (first | omega | (simp only [IntKind.wrap_i64] at *; omega) | (simp_all; done) | (simp_all; omega)))
  refine swp_ret ?_
  simp [runs, gd, step1, need, evu, un, opnds, opv, ev, cst, cst1, cstL, getT, getH, putT, onL, nxt, argT, cellsOf, PV.one, thn, inBlk, jmp, fldP, ldP, ldC, live, Cells.len, Cells.get, Cells.w, sug, ldv, bin, eqF, eq1, ops2, sh2, binv, Tk.agg, stC, apC, rdS, apS, mvL, zp, argsP, idx, fillP, toInts, chunks, mkC, ixS, ixA, oidx, slP, sl0, mxF, bltn, frzA, frz, frzL, frz1, pur1, Cells.pur, PV.scal, scal1, runD, rdO, PV.ids, id1, zids, ety, Eff.on, cnd, minb, and1b, ifmax, ifmin, mxv, sugI, strv, w0, w1, w2, wm1, fnPost, Try.results79, resP, tupOf]
  simp [mayB]

attribute [local simp] runs gd step1 need evu un opnds opv ev cst cst1 cstL getT getH putT onL nxt argT cellsOf PV.one thn inBlk jmp fldP ldP ldC live Cells.len Cells.get Cells.w sug ldv bin eqF eq1 ops2 sh2 binv Tk.agg stC apC rdS apS mvL zp argsP idx fillP toInts chunks mkC ixS ixA oidx slP sl0 mxF bltn frzA frz frzL frz1 pur1 Cells.pur PV.scal scal1 runD rdO PV.ids id1 zids ety Eff.on cnd minb and1b ifmax ifmin mxv sugI strv w0 w1 w2 wm1
theorem rcheck_ok (rate : Int) (ga s sh m : Int) (g : List Int) (se : List (List Sc)) (st : List (List Int)) (tn : List (List Fl)) (ln : List Int) (hl : LenOk g se st tn) : PCall Try.prog 33 [.int .i64 rate, .agg [.int .i64 ga, .int .u8 s, .int .u8 sh, .int .i64 m, .ro (.ints .i64 g), .ro (.rows 1 (se.map fun w => [.ro (.rows 2 (w.map Sc.row))])), .ro (.rows 1 (st.map fun w => [.ro (.ints .i64 w)])), .ro (.rows 1 (tn.map fun w => [.ro (.rows 5 (w.map Fl.row))])), .ro (.ints .i64 ln)]] (.int .i64 (chL rate ga s sh m g se st tn ln)) := by
  refine pcall_body ty_ok Try.func33 rfl (by rfl) (by simp) ?_
  rw [Try.ntmps33]
  refine swp_seq fun K1 hK1 => ?_
  refine swp_region ty_ok ?_
  try simp (maxSteps := 1000000)
  repeat' (first | apply And.intro | intro _)
  any_goals (first | (refine hK1 _ ?_; clear hK1) | (first | omega | (simp only [IntKind.wrap_i64] at *; omega) | (simp_all; done) | (simp_all; omega)))
  refine swp_seq fun K2 hK2 => ?_
  refine swp_seq fun K3 hK3 => ?_
  refine swp_region ty_ok ?_
  try simp (maxSteps := 1000000)
  repeat' (first | apply And.intro | intro _)
  any_goals (first | (refine hK3 _ ?_; clear hK3) | (first | omega | (simp only [IntKind.wrap_i64] at *; omega) | (simp_all; done) | (simp_all; omega)))
  refine swp_if fun C4 hC4 => ?_
  try simp (maxSteps := 1000000)
  refine hC4 _ (fun hc4 => ?_) (fun hc4 => ?_)
  · clear hC4
    try simp at hc4
    refine swp_seq fun K5 hK5 => ?_
    refine swp_region ty_ok ?_
    try simp (maxSteps := 1000000)
    repeat' (first | apply And.intro | intro _)
    any_goals (first | (refine hK5 _ ?_; clear hK5) | (first | omega | (simp only [IntKind.wrap_i64] at *; omega) | (simp_all; done) | (simp_all; omega)))
    refine swp_ret ?_
    simp [fnPost, Try.results33, resP, tupOf]
    exact chL_rate (by omega)
  · clear hC4
    try simp at hc4
    refine swp_skip ?_
    simp only [thn, inBlk]
    refine hK2 _ ?_; clear hK2
    refine swp_seq fun K6 hK6 => ?_
    refine swp_seq fun K7 hK7 => ?_
    refine swp_region ty_ok ?_
    refine runs_cut 2 fun R8 hR8 => ?_
    try simp (maxSteps := 1000000) [List.take_succ_cons, List.take_zero, List.drop_succ_cons, List.drop_zero]
    repeat' (first | apply And.intro | intro _)
    any_goals (first | (refine hR8 _ ?_; clear hR8) | (first | omega | (simp only [IntKind.wrap_i64] at *; omega) | (simp_all; done) | (simp_all; omega)))
    refine runs_cut 1 fun R9 hR9 => ?_
    try simp (maxSteps := 1000000) [List.take_succ_cons, List.take_zero, List.drop_succ_cons, List.drop_zero]
    refine .inl ⟨_, may_ok rate ga s sh m g se st tn ln hl (by omega), ?_⟩
    try simp (maxSteps := 1000000)
    repeat' (first | apply And.intro | intro _)
    any_goals (first | (refine hR9 _ ?_; clear hR9) | (first | omega | (simp only [IntKind.wrap_i64] at *; omega) | (simp_all; done) | (simp_all; omega)))
    try simp (maxSteps := 1000000) [List.take_succ_cons, List.take_zero, List.drop_succ_cons, List.drop_zero]
    repeat' (first | apply And.intro | intro _)
    any_goals (first | (refine hK7 _ ?_; clear hK7) | (first | omega | (simp only [IntKind.wrap_i64] at *; omega) | (simp_all; done) | (simp_all; omega)))
    refine swp_if fun C10 hC10 => ?_
    try simp (maxSteps := 1000000)
    refine hC10 _ (fun hc10 => ?_) (fun hc10 => ?_)
    · clear hC10
      try simp at hc10
      refine swp_seq fun K11 hK11 => ?_
      refine swp_region ty_ok ?_
      try simp (maxSteps := 1000000)
      repeat' (first | apply And.intro | intro _)
      any_goals (first | (refine hK11 _ ?_; clear hK11) | (first | omega | (simp only [IntKind.wrap_i64] at *; omega) | (simp_all; done) | (simp_all; omega)))
      refine swp_ret ?_
      simp [fnPost, Try.results33, resP, tupOf]
      exact mayB_n (by omega) (by assumption)
    · clear hC10
      try simp at hc10
      refine swp_skip ?_
      simp only [thn, inBlk]
      refine hK6 _ ?_; clear hK6
      refine swp_seq fun K12 hK12 => ?_
      refine swp_region ty_ok ?_
      try simp (maxSteps := 1000000)
      repeat' (first | apply And.intro | intro _)
      any_goals (first | (refine hK12 _ ?_; clear hK12) | (first | omega | (simp only [IntKind.wrap_i64] at *; omega) | (simp_all; done) | (simp_all; omega)))
      refine swp_ret ?_
      simp [fnPost, Try.results33, resP, tupOf]
      exact mayB_y (by omega) (by assumption)

set_option maxHeartbeats 2000000 in
theorem rbook_ok (se : List (List Sc)) (gi b : Int) (hs : ∀ w ∈ se, w.length ≤ 1000) (hb : -9223372036854775808 ≤ b ∧ b ≤ 9223372036854775807) : PCall Try.prog 31 [.ro (.rows 1 (se.map fun w => [.ro (.rows 2 (w.map Sc.row))])), .int .i64 gi, .int .i64 b] (.tup [.int .i64 (bkG se gi b).1, .int .i64 (bkG se gi b).2]) := by
  refine pcall_body ty_ok Try.func31 rfl (by rfl) (by simp) ?_
  rw [Try.ntmps31]
  refine swp_seq fun K1 hK1 => ?_
  refine swp_region ty_ok ?_
  try simp (maxSteps := 1000000)
  repeat' (first | apply And.intro | intro _)
  any_goals (first | (refine hK1 _ ?_; clear hK1) | (first | omega | (simp only [IntKind.wrap_i64] at *; omega) | (simp_all; done) | (simp_all; omega)))
  refine swp_seq fun K2 hK2 => ?_
  refine swp_seq fun K3 hK3 => ?_
  refine swp_region ty_ok ?_
  try simp (maxSteps := 1000000)
  repeat' (first | apply And.intro | intro _)
  any_goals (first | (refine hK3 _ ?_; clear hK3) | (first | omega | (simp only [IntKind.wrap_i64] at *; omega) | (simp_all; done) | (simp_all; omega)))
  refine swp_if fun C4 hC4 => ?_
  try simp (maxSteps := 1000000)
  refine hC4 _ (fun hc4 => ?_) (fun hc4 => ?_)
  · clear hC4
    try simp at hc4
    refine swp_seq fun K5 hK5 => ?_
    refine swp_region ty_ok ?_
    try simp (maxSteps := 1000000)
    repeat' (first | apply And.intro | intro _)
    any_goals (first | (refine hK5 _ ?_; clear hK5) | (first | omega | (simp only [IntKind.wrap_i64] at *; omega) | (simp_all; done) | (simp_all; omega)))
    refine swp_ret ?_
    simp [fnPost, Try.results31, resP, tupOf]
    rw [bkG, if_pos (by omega)]; exact ⟨rfl, rfl⟩
  · clear hC4
    try simp at hc4
    refine swp_skip ?_
    simp only [thn, inBlk]
    refine hK2 _ ?_; clear hK2
    refine swp_seq fun K6 hK6 => ?_
    refine swp_region ty_ok ?_
    try simp (maxSteps := 1000000)
    repeat' (first | apply And.intro | intro _)
    any_goals (first | (refine hK6 _ ?_; clear hK6) | (first | omega | (simp only [IntKind.wrap_i64] at *; omega) | (simp_all; done) | (simp_all; omega)))
    refine swp_seq fun K7 hK7 => ?_
    refine swp_seq fun K8 hK8 => ?_
    refine swp_region ty_ok ?_
    try simp (maxSteps := 1000000)
    repeat' (first | apply And.intro | intro _)
    any_goals (first | (refine hK8 _ ?_; clear hK8) | (first | omega | (simp only [IntKind.wrap_i64] at *; omega) | (simp_all; done) | (simp_all; omega)))
    refine swp_block ?_
    have hGl0 : (se[gi.toNat]?.getD []).length ≤ 1000 := hs _ (mem_at (w := se) (by omega))
    refine swp_loop 0 (fun m_ s_ => ∃ (k : Nat) (y : Int), (k ≤ (se[gi.toNat]?.getD []).length) ∧ (0 ≤ y ∧ y ≤ b) ∧ (bkL ((se[gi.toNat]?.getD []).drop k) (b - y) = bkG se gi b) ∧ s_ = ⟨[(0, .ro (.rows 1 (se.map fun w => [.ro (.rows 2 (w.map Sc.row))]))), (1, .int .i64 gi), (2, .int .i64 b), (8, .int .i64 y), (9, .int .i64 (k : Nat))], [], 0⟩ ∧ m_ = (se[gi.toNat]?.getD []).length - k) _ ⟨[(0, .ro (.rows 1 (se.map fun w => [.ro (.rows 2 (w.map Sc.row))]))), (1, .int .i64 gi), (2, .int .i64 b), (8, .int .i64 0), (9, .int .i64 (0 : Nat))], [], 0⟩ ⟨by simp [getT, PV.lo, lo1], by simp [getH, Blk.lo, Cells.lo, lo1], rfl, by omega⟩ ⟨(0), (0), by omega, by omega, by (rw [bkG, if_neg (by omega), Int.sub_zero]; rfl), rfl, rfl⟩ ?_
    rintro m_ s_ ⟨k, y, hL9_0, hL9_1, hL9_2, rfl, rfl⟩ KL9 hL9
    have hkw : IntKind.i64.wrap ((k : Int) + 1) = (((k + 1 : Nat)) : Int) := wnext (by omega)
    refine swp_seq fun K10 hK10 => ?_
    refine swp_seq fun K11 hK11 => ?_
    have hrow := s_at (l := se) (k := gi.toNat) (by omega)
    have hGl : (se[gi.toNat]?.getD []).length ≤ 1000 := hs _ (mem_at (w := se) (by omega))
    refine swp_region ty_ok ?_
    try simp (maxSteps := 1000000) [hrow]
    repeat' (first | apply And.intro | intro _)
    any_goals (first | (refine hK11 _ ?_; clear hK11) | (first | omega | (simp only [IntKind.wrap_i64] at *; omega) | (simp_all; done) | (simp_all; omega)))
    refine swp_if fun C12 hC12 => ?_
    try simp (maxSteps := 1000000) [hrow]
    refine hC12 _ (fun hc12 => ?_) (fun hc12 => ?_)
    · clear hC12
      try simp at hc12
      refine swp_skip ?_
      simp only [thn, inBlk]
      refine hK10 _ ?_; clear hK10
      refine swp_seq fun K13 hK13 => ?_
      refine swp_block ?_
      refine swp_seq fun K14 hK14 => ?_
      have hrk := sc_at (ws := (se[gi.toNat]?.getD [])) (k := k) (by omega)
      have hbd := bk_drop (l := (se[gi.toNat]?.getD [])) (k := k) (by omega) (b - y)
      have hyw : IntKind.i64.wrap (b - y) = b - y := w64 (by omega)
      refine swp_region ty_ok ?_
      try simp (maxSteps := 1000000) [hrow, hrk]
      repeat' (first | apply And.intro | intro _)
      any_goals (first | (refine hK14 _ ?_; clear hK14) | (first | omega | (simp only [IntKind.wrap_i64] at *; omega) | (simp_all; done) | (simp_all; omega)))
      refine swp_seq fun K15 hK15 => ?_
      refine swp_seq fun K16 hK16 => ?_
      refine swp_region ty_ok ?_
      try simp (maxSteps := 1000000)
      repeat' (first | apply And.intro | intro _)
      any_goals (first | (refine hK16 _ ?_; clear hK16) | (first | omega | (simp only [IntKind.wrap_i64] at *; omega) | (simp_all; done) | (simp_all; omega)))
      refine swp_if fun C17 hC17 => ?_
      try simp (maxSteps := 1000000)
      refine hC17 _ (fun hc17 => ?_) (fun hc17 => ?_)
      · clear hC17
        try simp at hc17
        refine swp_exit ?_
        simp [thn, inBlk]
        refine hK13 _ ?_; clear hK13
        refine swp_region ty_ok ?_
        try simp (maxSteps := 1000000)
        repeat' apply And.intro
        any_goals (try omega)
        refine hL9 _ ⟨[(0, .ro (.rows 1 (se.map fun w => [.ro (.rows 2 (w.map Sc.row))]))), (1, .int .i64 gi), (2, .int .i64 b), (8, .int .i64 (if ((se[gi.toNat]?.getD [])[k]?.getD default).len < 1 then y else y + ((se[gi.toNat]?.getD [])[k]?.getD default).len)), (9, .int .i64 ((k + 1) : Nat))], [], 0⟩ _ ?_ ⟨(k + 1), (if ((se[gi.toNat]?.getD [])[k]?.getD default).len < 1 then y else y + ((se[gi.toNat]?.getD [])[k]?.getD default).len), by omega, by (split <;> omega), by (rw [← (by assumption : bkL (List.drop k (se[gi.toNat]?.getD [])) (b - y) = bkG se gi b), hbd]; first | rw [if_pos (by omega), if_pos (by omega)] | (rw [if_neg (by omega), if_neg (by omega), if_neg (by omega)]; congr 1; omega)), rfl, rfl⟩ ⟨by (simp [getT, PV.lo, lo1, hkw]; first | (intro _; omega) | rw [if_pos (by omega)] | rw [if_neg (by omega), w64 (by omega)]), by simp [getH, Blk.lo, Cells.lo, lo1], rfl, by omega⟩
        omega
      · clear hC17
        try simp at hc17
        refine swp_skip ?_
        simp only [thn, inBlk]
        refine hK15 _ ?_; clear hK15
        refine swp_seq fun K18 hK18 => ?_
        refine swp_seq fun K19 hK19 => ?_
        refine swp_region ty_ok ?_
        try simp (maxSteps := 1000000) [hyw]
        repeat' (first | apply And.intro | intro _)
        any_goals (first | (refine hK19 _ ?_; clear hK19) | (first | omega | (simp only [IntKind.wrap_i64] at *; omega) | (simp_all; done) | (simp_all; omega)))
        refine swp_if fun C20 hC20 => ?_
        try simp (maxSteps := 1000000) [hyw]
        refine hC20 _ (fun hc20 => ?_) (fun hc20 => ?_)
        · clear hC20
          try simp at hc20
          refine swp_seq fun K21 hK21 => ?_
          refine swp_region ty_ok ?_
          try simp (maxSteps := 1000000)
          repeat' (first | apply And.intro | intro _)
          any_goals (first | (refine hK21 _ ?_; clear hK21) | (first | omega | (simp only [IntKind.wrap_i64] at *; omega) | (simp_all; done) | (simp_all; omega)))
          refine swp_ret ?_
          simp [fnPost, Try.results31, resP, tupOf]
          rw [← (by assumption : bkL (List.drop k (se[gi.toNat]?.getD [])) (b - y) = bkG se gi b), hbd, if_neg (by omega), if_pos (by omega)]; exact ⟨rfl, rfl⟩
        · clear hC20
          try simp at hc20
          refine swp_skip ?_
          simp only [thn, inBlk]
          refine hK18 _ ?_; clear hK18
          refine swp_region ty_ok ?_
          try simp (maxSteps := 1000000)
          repeat' (first | apply And.intro | intro _)
          any_goals (first | (refine hK13 _ ?_; clear hK13) | (first | omega | (simp only [IntKind.wrap_i64] at *; omega) | (simp_all; done) | (simp_all; omega)))
          refine swp_region ty_ok ?_
          try simp (maxSteps := 1000000)
          repeat' apply And.intro
          any_goals (try omega)
          refine hL9 _ ⟨[(0, .ro (.rows 1 (se.map fun w => [.ro (.rows 2 (w.map Sc.row))]))), (1, .int .i64 gi), (2, .int .i64 b), (8, .int .i64 (if ((se[gi.toNat]?.getD [])[k]?.getD default).len < 1 then y else y + ((se[gi.toNat]?.getD [])[k]?.getD default).len)), (9, .int .i64 ((k + 1) : Nat))], [], 0⟩ _ ?_ ⟨(k + 1), (if ((se[gi.toNat]?.getD [])[k]?.getD default).len < 1 then y else y + ((se[gi.toNat]?.getD [])[k]?.getD default).len), by omega, by (split <;> omega), by (rw [← (by assumption : bkL (List.drop k (se[gi.toNat]?.getD [])) (b - y) = bkG se gi b), hbd]; first | rw [if_pos (by omega), if_pos (by omega)] | (rw [if_neg (by omega), if_neg (by omega), if_neg (by omega)]; congr 1; omega)), rfl, rfl⟩ ⟨by (simp [getT, PV.lo, lo1, hkw]; first | (intro _; omega) | rw [if_pos (by omega)] | rw [if_neg (by omega), w64 (by omega)]), by simp [getH, Blk.lo, Cells.lo, lo1], rfl, by omega⟩
          omega
    · clear hC12
      try simp at hc12
      refine swp_exit ?_
      simp [thn, inBlk]
      refine hK7 _ ?_; clear hK7
      refine swp_seq fun K22 hK22 => ?_
      refine swp_region ty_ok ?_
      try simp (maxSteps := 1000000)
      repeat' (first | apply And.intro | intro _)
      any_goals (first | (refine hK22 _ ?_; clear hK22) | (first | omega | (simp only [IntKind.wrap_i64] at *; omega) | (simp_all; done) | (simp_all; omega)))
      refine swp_ret ?_
      simp [fnPost, Try.results31, resP, tupOf]
      rw [← (by assumption : bkL (List.drop k (se[gi.toNat]?.getD [])) (b - y) = bkG se gi b), bk_end (by omega)]; exact ⟨rfl, rfl⟩

set_option maxHeartbeats 4000000 in
theorem nothing_P (s sh m : Int) (g : List Int) (hx : g.length ≤ 1000) (hm : 0 ≤ m ∧ m ≤ 40) : PCall Try.prog 69 [.agg [.int .u8 s, .int .u8 sh, .int .i64 m, .ro (.ints .i64 g)]] (.agg [.int .i64 0, .int .u8 s, .int .u8 sh, .int .i64 m, .ro (.ints .i64 g), .ro (.rows 1 ((seZ m g.length).map fun w => [PV.ro (.rows 2 (w.map Sc.row))])), .ro (.rows 1 ((stZ m g.length).map fun w => [PV.ro (.ints .i64 w)])), .ro (.rows 1 ((tnZ (maN s)).map fun w => [PV.ro (.rows 5 (w.map Fl.row))])), .ro (.ints .i64 zL)]) := by
  have hmn : ((m.toNat : Nat) : Int) = m := by omega
  have hmaN : maN s = 8 ∨ maN s = 1 := by unfold maN; split <;> omega
  refine pcall_body ty_ok Try.func69 rfl (by rfl) (by simp) ?_
  rw [Try.ntmps69]
  refine swp_seq fun K1 hK1 => ?_
  refine swp_region ty_ok ?_
  try simp (maxSteps := 1000000) [zL_eq, zL_len, seZ_len, stZ_len]
  repeat' (first | apply And.intro | intro _)
  any_goals (first | (refine hK1 _ ?_; clear hK1) | (first | omega | (simp only [IntKind.wrap_i64] at *; omega) | (simp_all; done) | (simp_all; omega)))
  refine swp_seq fun K2 hK2 => ?_
  refine swp_draw ty_ok mixed (ms := [0, 1, 0, 7, 0, 31]) (by kernel_rfl) ?_
  refine runD_cut 1 fun R3 hR3 => ?_
  try simp (maxSteps := 1000000) [zL_eq, zL_len, seZ_len, stZ_len, List.take_succ_cons, List.take_zero, List.drop_succ_cons, List.drop_zero]
  repeat' (first | apply And.intro | intro _)
  any_goals (first | (refine hR3 _ _ _ _ ?_; clear hR3) | (first | omega | (simp only [IntKind.wrap_i64] at *; omega) | (simp_all; done) | (simp_all; omega)))
  refine runD_cut 1 fun R4 hR4 => ?_
  try simp (maxSteps := 1000000) [zL_eq, zL_len, seZ_len, stZ_len, List.take_succ_cons, List.take_zero, List.drop_succ_cons, List.drop_zero]
  refine .inl ⟨_, twin10_P s sh m g (by omega), ?_⟩
  try simp (maxSteps := 1000000) [zL_eq, zL_len, seZ_len, stZ_len]
  repeat' (first | apply And.intro | intro _)
  any_goals (first | (refine hR4 _ _ _ _ ?_; clear hR4) | (first | omega | (simp only [IntKind.wrap_i64] at *; omega) | (simp_all; done) | (simp_all; omega)))
  refine runD_cut 1 fun R5 hR5 => ?_
  try simp (maxSteps := 1000000) [zL_eq, zL_len, seZ_len, stZ_len, List.take_succ_cons, List.take_zero, List.drop_succ_cons, List.drop_zero]
  repeat' (first | apply And.intro | intro _)
  any_goals (first | (refine Or.inl (hR5 _ _ _ _ ?_); clear hR5) | (first | omega | (simp only [IntKind.wrap_i64] at *; omega) | (simp_all; done) | (simp_all; omega)))
  try simp (maxSteps := 1000000) [zL_eq, zL_len, seZ_len, stZ_len, List.take_succ_cons, List.take_zero, List.drop_succ_cons, List.drop_zero]
  repeat' (first | apply And.intro | intro _)
  any_goals (first | kernel_rfl | (refine hK2 _ ?_; clear hK2) | (first | omega | (simp only [IntKind.wrap_i64] at *; omega) | (simp_all; done) | (simp_all; omega)))
  refine swp_seq fun K7 hK7 => ?_
  refine swp_seq fun K8 hK8 => ?_
  refine swp_region ty_ok ?_
  try simp (maxSteps := 1000000) [zL_eq, zL_len, seZ_len, stZ_len]
  repeat' (first | apply And.intro | intro _)
  any_goals (first | (refine hK8 _ ?_; clear hK8) | (first | omega | (simp only [IntKind.wrap_i64] at *; omega) | (simp_all; done) | (simp_all; omega)))
  refine swp_block ?_
  refine swp_ownb 34 5 36 (by rfl) (by rfl) (by rfl) ?_
  simp only [List.set]
  refine swp_ownb 34 6 22 (by rfl) (by rfl) (by rfl) ?_
  simp only [List.set]
  refine swp_loop 52 (fun m_ s_ => ∃ (k : Nat), (k ≤ g.length) ∧ s_ = ⟨[(1, .ptr 0 0 0 1), (2, .ptr 1 0 0 1), (3, .ptr 34 0 0 1), (4, .int .i64 (k : Nat))], [(0, some ⟨.rows 4 [[.int .u8 s, .int .u8 sh, .int .i64 m, .ro (.ints .i64 g)]], true, 24⟩), (1, some ⟨.rows 9 [[.int .i64 0, .int .u8 0, .int .u8 0, .int .i64 0, .nil (.ints .i64 []), .nil (.rows 1 []), .nil (.rows 1 []), .nil (.rows 1 []), .nil (.ints .i64 [])]], true, 29⟩), (34, some ⟨.rows 9 [[.int .i64 0, .int .u8 s, .int .u8 sh, .int .i64 m, .ro (.ints .i64 g), .sl 50 0 k k, .sl 51 0 k k, .nil (.rows 1 []), .ro (.ints .i64 zL)]], true, 29⟩), (50, some ⟨.rows 1 ((seZ m k).map fun w => [PV.ro (.rows 2 (w.map Sc.row))]), false, 36⟩), (51, some ⟨.rows 1 ((stZ m k).map fun w => [PV.ro (.ints .i64 w)]), false, 22⟩)], 52⟩ ∧ m_ = g.length - k) _ ⟨[(1, .ptr 0 0 0 1), (2, .ptr 1 0 0 1), (3, .ptr 34 0 0 1), (4, .int .i64 (0 : Nat))], [(0, some ⟨.rows 4 [[.int .u8 s, .int .u8 sh, .int .i64 m, .ro (.ints .i64 g)]], true, 24⟩), (1, some ⟨.rows 9 [[.int .i64 0, .int .u8 0, .int .u8 0, .int .i64 0, .nil (.ints .i64 []), .nil (.rows 1 []), .nil (.rows 1 []), .nil (.rows 1 []), .nil (.ints .i64 [])]], true, 29⟩), (34, some ⟨.rows 9 [[.int .i64 0, .int .u8 s, .int .u8 sh, .int .i64 m, .ro (.ints .i64 g), .sl 50 0 0 0, .sl 51 0 0 0, .nil (.rows 1 []), .ro (.ints .i64 zL)]], true, 29⟩), (50, some ⟨.rows 1 ((seZ m 0).map fun w => [PV.ro (.rows 2 (w.map Sc.row))]), false, 36⟩), (51, some ⟨.rows 1 ((stZ m 0).map fun w => [PV.ro (.ints .i64 w)]), false, 22⟩)], 52⟩ ⟨by simp [getT, PV.lo, lo1], by simp [getH, Blk.lo, Cells.lo, lo1, seZ, stZ], rfl, by omega⟩ ⟨(0), by (first | omega | (simp only [IntKind.wrap_i64] at *; omega) | (simp_all; done) | (simp_all; omega)), rfl, rfl⟩ ?_
  rintro m_ s_ ⟨k, hL9_0, rfl, rfl⟩ KL9 hL9
  have hkw : IntKind.i64.wrap ((k : Int) + 1) = (((k + 1 : Nat)) : Int) := wnext (by omega)
  refine swp_seq fun K10 hK10 => ?_
  refine swp_seq fun K11 hK11 => ?_
  refine swp_region ty_ok ?_
  try simp (maxSteps := 1000000) [zL_eq, zL_len, seZ_len, stZ_len]
  repeat' (first | apply And.intro | intro _)
  any_goals (first | (refine hK11 _ ?_; clear hK11) | (first | omega | (simp only [IntKind.wrap_i64] at *; omega) | (simp_all; done) | (simp_all; omega)))
  refine swp_if fun C12 hC12 => ?_
  try simp (maxSteps := 1000000) [zL_eq, zL_len, seZ_len, stZ_len]
  refine hC12 _ (fun hc12 => ?_) (fun hc12 => ?_)
  · clear hC12
    try simp at hc12
    refine swp_skip ?_
    simp only [thn, inBlk]
    refine hK10 _ ?_; clear hK10
    refine swp_seq fun K13 hK13 => ?_
    refine swp_block ?_
    refine swp_seq fun K14 hK14 => ?_
    refine swp_region ty_ok ?_
    try simp (maxSteps := 1000000) [zL_eq, zL_len, seZ_len, stZ_len]
    repeat' (first | apply And.intro | intro _)
    any_goals (first | (refine hK14 _ ?_; clear hK14) | (first | omega | (simp only [IntKind.wrap_i64] at *; omega) | (simp_all; done) | (simp_all; omega)))
    refine swp_seq fun K15 hK15 => ?_
    refine swp_seq fun K16 hK16 => ?_
    refine swp_region ty_ok ?_
    try simp (maxSteps := 1000000) [zL_eq, zL_len, seZ_len, stZ_len]
    repeat' (first | apply And.intro | intro _)
    any_goals (first | (refine hK16 _ ?_; clear hK16) | (first | omega | (simp only [IntKind.wrap_i64] at *; omega) | (simp_all; done) | (simp_all; omega)))
    refine swp_if fun C17 hC17 => ?_
    try simp (maxSteps := 1000000) [zL_eq, zL_len, seZ_len, stZ_len]
    refine hC17 _ (fun hc17 => ?_) (fun hc17 => ?_)
    · clear hC17
      try simp at hc17
      refine swp_region ty_ok ?_
      refine runs_cut 4 fun R18 hR18 => ?_
      try simp (maxSteps := 1000000) [zL_eq, zL_len, seZ_len, stZ_len, List.take_succ_cons, List.take_zero, List.drop_succ_cons, List.drop_zero]
      repeat' (first | apply And.intro | intro _)
      any_goals (first | (refine hR18 _ ?_; clear hR18) | (first | omega | (simp only [IntKind.wrap_i64] at *; omega) | (simp_all; done) | (simp_all; omega)))
      refine runs_cut 1 fun R19 hR19 => ?_
      try simp (maxSteps := 1000000) [zL_eq, zL_len, seZ_len, stZ_len, List.take_succ_cons, List.take_zero, List.drop_succ_cons, List.drop_zero]
      repeat' (first | apply And.intro | intro _)
      any_goals (first | (refine Or.inl (hR19 _ ?_); clear hR19) | (first | omega | (simp only [IntKind.wrap_i64] at *; omega) | (simp_all; done) | (simp_all; omega)))
      try simp (maxSteps := 1000000) [zL_eq, zL_len, seZ_len, stZ_len, List.take_succ_cons, List.take_zero, List.drop_succ_cons, List.drop_zero]
      repeat' (first | apply And.intro | intro _)
      any_goals (first | (refine hK15 _ ?_; clear hK15) | (first | omega | (simp only [IntKind.wrap_i64] at *; omega) | (simp_all; done) | (simp_all; omega)))
      refine swp_seq fun K20 hK20 => ?_
      refine swp_region ty_ok ?_
      refine runs_cut 3 fun R21 hR21 => ?_
      try simp (maxSteps := 1000000) [zL_eq, zL_len, seZ_len, stZ_len, List.take_succ_cons, List.take_zero, List.drop_succ_cons, List.drop_zero]
      repeat' (first | apply And.intro | intro _)
      any_goals (first | (refine hR21 _ ?_; clear hR21) | (first | omega | (simp only [IntKind.wrap_i64] at *; omega) | (simp_all; done) | (simp_all; omega)))
      refine runs_cut 1 fun R22 hR22 => ?_
      try simp (maxSteps := 1000000) [zL_eq, zL_len, seZ_len, stZ_len, List.take_succ_cons, List.take_zero, List.drop_succ_cons, List.drop_zero]
      repeat' (first | apply And.intro | intro _)
      any_goals (first | (refine Or.inl (hR22 _ ?_); clear hR22) | (first | omega | (simp only [IntKind.wrap_i64] at *; omega) | (simp_all; done) | (simp_all; omega)))
      try simp (maxSteps := 1000000) [zL_eq, zL_len, seZ_len, stZ_len, List.take_succ_cons, List.take_zero, List.drop_succ_cons, List.drop_zero]
      repeat' (first | apply And.intro | intro _)
      any_goals (first | (refine hK20 _ ?_; clear hK20) | (first | omega | (simp only [IntKind.wrap_i64] at *; omega) | (simp_all; done) | (simp_all; omega)))
      refine swp_draw ty_ok mixed (ms := [0, 1, 0, 4, 12, 28, 63, 127, 255]) (by kernel_rfl) ?_
      refine runD_cut 4 fun R23 hR23 => ?_
      try simp (maxSteps := 1000000) [zL_eq, zL_len, seZ_len, stZ_len, hmn, List.take_succ_cons, List.take_zero, List.drop_succ_cons, List.drop_zero]
      repeat' (first | apply And.intro | intro _)
      any_goals (first | (refine hR23 _ _ _ _ ?_; clear hR23) | (first | omega | (simp only [IntKind.wrap_i64] at *; omega) | (simp_all; done) | (simp_all; omega)))
      refine runD_cut 1 fun R24 hR24 => ?_
      try simp (maxSteps := 1000000) [zL_eq, zL_len, seZ_len, stZ_len, hmn, List.take_succ_cons, List.take_zero, List.drop_succ_cons, List.drop_zero]
      repeat' (first | apply And.intro | intro _)
      any_goals (first | (refine Or.inl (hR24 _ _ _ _ ?_); clear hR24) | (first | omega | (simp only [IntKind.wrap_i64] at *; omega) | (simp_all; done) | (simp_all; omega)))
      refine runD_cut 1 fun R25 hR25 => ?_
      try simp (maxSteps := 1000000) [zL_eq, zL_len, seZ_len, stZ_len, hmn, List.take_succ_cons, List.take_zero, List.drop_succ_cons, List.drop_zero]
      repeat' (first | apply And.intro | intro _)
      any_goals (first | (refine Or.inl (hR25 _ _ _ _ ?_); clear hR25) | (first | omega | (simp only [IntKind.wrap_i64] at *; omega) | (simp_all; done) | (simp_all; omega)))
      try simp (maxSteps := 1000000) [zL_eq, zL_len, seZ_len, stZ_len, hmn, List.take_succ_cons, List.take_zero, List.drop_succ_cons, List.drop_zero]
      repeat' (first | apply And.intro | intro _)
      any_goals (first | kernel_rfl | (refine hK13 _ ?_; clear hK13) | (first | omega | (simp only [IntKind.wrap_i64] at *; omega) | (simp_all; done) | (simp_all; omega)))
      refine swp_region ty_ok ?_
      try simp (maxSteps := 1000000) [zL_eq, zL_len, seZ_len, stZ_len]
      repeat' apply And.intro
      any_goals (try omega)
      refine hL9 _ ⟨[(1, .ptr 0 0 0 1), (2, .ptr 1 0 0 1), (3, .ptr 34 0 0 1), (4, .int .i64 ((k + 1) : Nat))], [(0, some ⟨.rows 4 [[.int .u8 s, .int .u8 sh, .int .i64 m, .ro (.ints .i64 g)]], true, 24⟩), (1, some ⟨.rows 9 [[.int .i64 0, .int .u8 0, .int .u8 0, .int .i64 0, .nil (.ints .i64 []), .nil (.rows 1 []), .nil (.rows 1 []), .nil (.rows 1 []), .nil (.ints .i64 [])]], true, 29⟩), (34, some ⟨.rows 9 [[.int .i64 0, .int .u8 s, .int .u8 sh, .int .i64 m, .ro (.ints .i64 g), .sl 50 0 (k + 1) (k + 1), .sl 51 0 (k + 1) (k + 1), .nil (.rows 1 []), .ro (.ints .i64 zL)]], true, 29⟩), (50, some ⟨.rows 1 ((seZ m (k + 1)).map fun w => [PV.ro (.rows 2 (w.map Sc.row))]), false, 36⟩), (51, some ⟨.rows 1 ((stZ m (k + 1)).map fun w => [PV.ro (.ints .i64 w)]), false, 22⟩)], 52⟩ _ ?_ ⟨(k + 1), by (first | omega | (simp only [IntKind.wrap_i64] at *; omega) | (simp_all; done) | (simp_all; omega)), rfl, rfl⟩ ⟨by simp [getT, PV.lo, lo1, hkw], by (simp [getH, Blk.lo, Cells.lo, lo1, seZ_succ, stZ_succ]; first | (rw [srZ, if_pos (by omega)]; first | done | rfl) | (rw [srZ, if_neg (by omega)]; first | done | rfl)), rfl, by omega⟩
      omega
    · clear hC17
      try simp at hc17
      refine swp_skip ?_
      simp only [thn, inBlk]
      refine hK15 _ ?_; clear hK15
      refine swp_seq fun K27 hK27 => ?_
      refine swp_region ty_ok ?_
      refine runs_cut 3 fun R28 hR28 => ?_
      try simp (maxSteps := 1000000) [zL_eq, zL_len, seZ_len, stZ_len, List.take_succ_cons, List.take_zero, List.drop_succ_cons, List.drop_zero]
      repeat' (first | apply And.intro | intro _)
      any_goals (first | (refine hR28 _ ?_; clear hR28) | (first | omega | (simp only [IntKind.wrap_i64] at *; omega) | (simp_all; done) | (simp_all; omega)))
      refine runs_cut 1 fun R29 hR29 => ?_
      try simp (maxSteps := 1000000) [zL_eq, zL_len, seZ_len, stZ_len, List.take_succ_cons, List.take_zero, List.drop_succ_cons, List.drop_zero]
      repeat' (first | apply And.intro | intro _)
      any_goals (first | (refine Or.inl (hR29 _ ?_); clear hR29) | (first | omega | (simp only [IntKind.wrap_i64] at *; omega) | (simp_all; done) | (simp_all; omega)))
      try simp (maxSteps := 1000000) [zL_eq, zL_len, seZ_len, stZ_len, List.take_succ_cons, List.take_zero, List.drop_succ_cons, List.drop_zero]
      repeat' (first | apply And.intro | intro _)
      any_goals (first | (refine hK27 _ ?_; clear hK27) | (first | omega | (simp only [IntKind.wrap_i64] at *; omega) | (simp_all; done) | (simp_all; omega)))
      refine swp_draw ty_ok mixed (ms := [0, 1, 0, 4, 12, 28, 63, 127, 255]) (by kernel_rfl) ?_
      refine runD_cut 4 fun R30 hR30 => ?_
      try simp (maxSteps := 1000000) [zL_eq, zL_len, seZ_len, stZ_len, hmn, List.take_succ_cons, List.take_zero, List.drop_succ_cons, List.drop_zero]
      repeat' (first | apply And.intro | intro _)
      any_goals (first | (refine hR30 _ _ _ _ ?_; clear hR30) | (first | omega | (simp only [IntKind.wrap_i64] at *; omega) | (simp_all; done) | (simp_all; omega)))
      refine runD_cut 1 fun R31 hR31 => ?_
      try simp (maxSteps := 1000000) [zL_eq, zL_len, seZ_len, stZ_len, hmn, List.take_succ_cons, List.take_zero, List.drop_succ_cons, List.drop_zero]
      repeat' (first | apply And.intro | intro _)
      any_goals (first | (refine Or.inl (hR31 _ _ _ _ ?_); clear hR31) | (first | omega | (simp only [IntKind.wrap_i64] at *; omega) | (simp_all; done) | (simp_all; omega)))
      refine runD_cut 1 fun R32 hR32 => ?_
      try simp (maxSteps := 1000000) [zL_eq, zL_len, seZ_len, stZ_len, hmn, List.take_succ_cons, List.take_zero, List.drop_succ_cons, List.drop_zero]
      repeat' (first | apply And.intro | intro _)
      any_goals (first | (refine Or.inl (hR32 _ _ _ _ ?_); clear hR32) | (first | omega | (simp only [IntKind.wrap_i64] at *; omega) | (simp_all; done) | (simp_all; omega)))
      try simp (maxSteps := 1000000) [zL_eq, zL_len, seZ_len, stZ_len, hmn, List.take_succ_cons, List.take_zero, List.drop_succ_cons, List.drop_zero]
      repeat' (first | apply And.intro | intro _)
      any_goals (first | kernel_rfl | (refine hK13 _ ?_; clear hK13) | (first | omega | (simp only [IntKind.wrap_i64] at *; omega) | (simp_all; done) | (simp_all; omega)))
      refine swp_region ty_ok ?_
      try simp (maxSteps := 1000000) [zL_eq, zL_len, seZ_len, stZ_len]
      repeat' apply And.intro
      any_goals (try omega)
      refine hL9 _ ⟨[(1, .ptr 0 0 0 1), (2, .ptr 1 0 0 1), (3, .ptr 34 0 0 1), (4, .int .i64 ((k + 1) : Nat))], [(0, some ⟨.rows 4 [[.int .u8 s, .int .u8 sh, .int .i64 m, .ro (.ints .i64 g)]], true, 24⟩), (1, some ⟨.rows 9 [[.int .i64 0, .int .u8 0, .int .u8 0, .int .i64 0, .nil (.ints .i64 []), .nil (.rows 1 []), .nil (.rows 1 []), .nil (.rows 1 []), .nil (.ints .i64 [])]], true, 29⟩), (34, some ⟨.rows 9 [[.int .i64 0, .int .u8 s, .int .u8 sh, .int .i64 m, .ro (.ints .i64 g), .sl 50 0 (k + 1) (k + 1), .sl 51 0 (k + 1) (k + 1), .nil (.rows 1 []), .ro (.ints .i64 zL)]], true, 29⟩), (50, some ⟨.rows 1 ((seZ m (k + 1)).map fun w => [PV.ro (.rows 2 (w.map Sc.row))]), false, 36⟩), (51, some ⟨.rows 1 ((stZ m (k + 1)).map fun w => [PV.ro (.ints .i64 w)]), false, 22⟩)], 52⟩ _ ?_ ⟨(k + 1), by (first | omega | (simp only [IntKind.wrap_i64] at *; omega) | (simp_all; done) | (simp_all; omega)), rfl, rfl⟩ ⟨by simp [getT, PV.lo, lo1, hkw], by (simp [getH, Blk.lo, Cells.lo, lo1, seZ_succ, stZ_succ]; first | (rw [srZ, if_pos (by omega)]; first | done | rfl) | (rw [srZ, if_neg (by omega)]; first | done | rfl)), rfl, by omega⟩
      omega
  · clear hC12
    try simp at hc12
    refine swp_exit ?_
    simp [thn, inBlk]
    refine hK7 _ ?_; clear hK7
    refine swp_seq fun K34 hK34 => ?_
    refine swp_seq fun K35 hK35 => ?_
    refine swp_region ty_ok ?_
    try simp (maxSteps := 1000000) [zL_eq, zL_len, seZ_len, stZ_len]
    repeat' (first | apply And.intro | intro _)
    any_goals (first | (refine hK35 _ ?_; clear hK35) | (first | omega | (simp only [IntKind.wrap_i64] at *; omega) | (simp_all; done) | (simp_all; omega)))
    refine swp_block ?_
    have hkg : k = g.length := by omega
    subst hkg
    refine swp_ownb 34 7 33 (by rfl) (by rfl) (by rfl) ?_
    simp only [List.set]
    refine swp_loop 53 (fun m_ s_ => ∃ (w : Nat), ((w : Int) ≤ maN s) ∧ s_ = ⟨[(1, .ptr 0 0 0 1), (2, .ptr 1 0 0 1), (3, .ptr 34 0 0 1), (6, .int .i64 (w : Nat))], [(0, some ⟨.rows 4 [[.int .u8 s, .int .u8 sh, .int .i64 m, .ro (.ints .i64 g)]], true, 24⟩), (1, some ⟨.rows 9 [[.int .i64 0, .int .u8 0, .int .u8 0, .int .i64 0, .nil (.ints .i64 []), .nil (.rows 1 []), .nil (.rows 1 []), .nil (.rows 1 []), .nil (.ints .i64 [])]], true, 29⟩), (34, some ⟨.rows 9 [[.int .i64 0, .int .u8 s, .int .u8 sh, .int .i64 m, .ro (.ints .i64 g), .sl 50 0 g.length g.length, .sl 51 0 g.length g.length, .sl 52 0 w w, .ro (.ints .i64 zL)]], true, 29⟩), (50, some ⟨.rows 1 ((seZ m g.length).map fun w => [PV.ro (.rows 2 (w.map Sc.row))]), false, 36⟩), (51, some ⟨.rows 1 ((stZ m g.length).map fun w => [PV.ro (.ints .i64 w)]), false, 22⟩), (52, some ⟨.rows 1 (List.replicate w [PV.ro (.rows 5 [])]), false, 33⟩)], 53⟩ ∧ m_ = (maN s).toNat - w) _ ⟨[(1, .ptr 0 0 0 1), (2, .ptr 1 0 0 1), (3, .ptr 34 0 0 1), (6, .int .i64 (0 : Nat))], [(0, some ⟨.rows 4 [[.int .u8 s, .int .u8 sh, .int .i64 m, .ro (.ints .i64 g)]], true, 24⟩), (1, some ⟨.rows 9 [[.int .i64 0, .int .u8 0, .int .u8 0, .int .i64 0, .nil (.ints .i64 []), .nil (.rows 1 []), .nil (.rows 1 []), .nil (.rows 1 []), .nil (.ints .i64 [])]], true, 29⟩), (34, some ⟨.rows 9 [[.int .i64 0, .int .u8 s, .int .u8 sh, .int .i64 m, .ro (.ints .i64 g), .sl 50 0 g.length g.length, .sl 51 0 g.length g.length, .sl 52 0 0 0, .ro (.ints .i64 zL)]], true, 29⟩), (50, some ⟨.rows 1 ((seZ m g.length).map fun w => [PV.ro (.rows 2 (w.map Sc.row))]), false, 36⟩), (51, some ⟨.rows 1 ((stZ m g.length).map fun w => [PV.ro (.ints .i64 w)]), false, 22⟩), (52, some ⟨.rows 1 (List.replicate 0 [PV.ro (.rows 5 [])]), false, 33⟩)], 53⟩ ⟨by simp [getT, PV.lo, lo1], by simp [getH, Blk.lo, Cells.lo, lo1], rfl, by omega⟩ ⟨(0), by (first | omega | (simp only [IntKind.wrap_i64] at *; omega) | (simp_all; done) | (simp_all; omega)), rfl, rfl⟩ ?_
    rintro m_ s_ ⟨w, hL36_0, rfl, rfl⟩ KL36 hL36
    have hww : IntKind.i64.wrap ((w : Int) + 1) = (((w + 1 : Nat)) : Int) := wnext (by omega)
    refine swp_seq fun K37 hK37 => ?_
    refine swp_seq fun K38 hK38 => ?_
    refine swp_region ty_ok ?_
    refine runs_cut 2 fun R39 hR39 => ?_
    try simp (maxSteps := 1000000) [zL_eq, zL_len, seZ_len, stZ_len, List.take_succ_cons, List.take_zero, List.drop_succ_cons, List.drop_zero]
    repeat' (first | apply And.intro | intro _)
    any_goals (first | (refine hR39 _ ?_; clear hR39) | (first | omega | (simp only [IntKind.wrap_i64] at *; omega) | (simp_all; done) | (simp_all; omega)))
    refine runs_cut 1 fun R40 hR40 => ?_
    try simp (maxSteps := 1000000) [zL_eq, zL_len, seZ_len, stZ_len, List.take_succ_cons, List.take_zero, List.drop_succ_cons, List.drop_zero]
    refine .inl ⟨_, reedpiperef10_Many_ok s sh m g (by omega), ?_⟩
    try simp (maxSteps := 1000000) [zL_eq, zL_len, seZ_len, stZ_len]
    repeat' (first | apply And.intro | intro _)
    any_goals (first | (refine hR40 _ ?_; clear hR40) | (first | omega | (simp only [IntKind.wrap_i64] at *; omega) | (simp_all; done) | (simp_all; omega)))
    try simp (maxSteps := 1000000) [zL_eq, zL_len, seZ_len, stZ_len, List.take_succ_cons, List.take_zero, List.drop_succ_cons, List.drop_zero]
    repeat' (first | apply And.intro | intro _)
    any_goals (first | (refine hK38 _ ?_; clear hK38) | (first | omega | (simp only [IntKind.wrap_i64] at *; omega) | (simp_all; done) | (simp_all; omega)))
    refine swp_if fun C41 hC41 => ?_
    try simp (maxSteps := 1000000) [zL_eq, zL_len, seZ_len, stZ_len]
    refine hC41 _ (fun hc41 => ?_) (fun hc41 => ?_)
    · clear hC41
      try simp at hc41
      refine swp_skip ?_
      simp only [thn, inBlk]
      refine hK37 _ ?_; clear hK37
      refine swp_seq fun K42 hK42 => ?_
      refine swp_block ?_
      refine swp_region ty_ok ?_
      refine runs_cut 2 fun R43 hR43 => ?_
      try simp (maxSteps := 1000000) [zL_eq, zL_len, seZ_len, stZ_len, List.take_succ_cons, List.take_zero, List.drop_succ_cons, List.drop_zero]
      repeat' (first | apply And.intro | intro _)
      any_goals (first | (refine hR43 _ ?_; clear hR43) | (first | omega | (simp only [IntKind.wrap_i64] at *; omega) | (simp_all; done) | (simp_all; omega)))
      refine runs_cut 1 fun R44 hR44 => ?_
      try simp (maxSteps := 1000000) [zL_eq, zL_len, seZ_len, stZ_len, List.take_succ_cons, List.take_zero, List.drop_succ_cons, List.drop_zero]
      repeat' (first | apply And.intro | intro _)
      any_goals (first | (refine Or.inl (hR44 _ ?_); clear hR44) | (first | omega | (simp only [IntKind.wrap_i64] at *; omega) | (simp_all; done) | (simp_all; omega)))
      try simp (maxSteps := 1000000) [zL_eq, zL_len, seZ_len, stZ_len, List.take_succ_cons, List.take_zero, List.drop_succ_cons, List.drop_zero]
      repeat' (first | apply And.intro | intro _)
      any_goals (first | (refine hK42 _ ?_; clear hK42) | (first | omega | (simp only [IntKind.wrap_i64] at *; omega) | (simp_all; done) | (simp_all; omega)))
      refine swp_region ty_ok ?_
      try simp (maxSteps := 1000000) [zL_eq, zL_len, seZ_len, stZ_len]
      repeat' apply And.intro
      any_goals (try omega)
      refine hL36 _ ⟨[(1, .ptr 0 0 0 1), (2, .ptr 1 0 0 1), (3, .ptr 34 0 0 1), (6, .int .i64 ((w + 1) : Nat))], [(0, some ⟨.rows 4 [[.int .u8 s, .int .u8 sh, .int .i64 m, .ro (.ints .i64 g)]], true, 24⟩), (1, some ⟨.rows 9 [[.int .i64 0, .int .u8 0, .int .u8 0, .int .i64 0, .nil (.ints .i64 []), .nil (.rows 1 []), .nil (.rows 1 []), .nil (.rows 1 []), .nil (.ints .i64 [])]], true, 29⟩), (34, some ⟨.rows 9 [[.int .i64 0, .int .u8 s, .int .u8 sh, .int .i64 m, .ro (.ints .i64 g), .sl 50 0 g.length g.length, .sl 51 0 g.length g.length, .sl 52 0 (w + 1) (w + 1), .ro (.ints .i64 zL)]], true, 29⟩), (50, some ⟨.rows 1 ((seZ m g.length).map fun w => [PV.ro (.rows 2 (w.map Sc.row))]), false, 36⟩), (51, some ⟨.rows 1 ((stZ m g.length).map fun w => [PV.ro (.ints .i64 w)]), false, 22⟩), (52, some ⟨.rows 1 (List.replicate (w + 1) [PV.ro (.rows 5 [])]), false, 33⟩)], 53⟩ _ ?_ ⟨(w + 1), by (first | omega | (simp only [IntKind.wrap_i64] at *; omega) | (simp_all; done) | (simp_all; omega)), rfl, rfl⟩ ⟨by simp [getT, PV.lo, lo1, hww], by simp [getH, Blk.lo, Cells.lo, lo1, List.replicate_succ'], rfl, by omega⟩
      omega
    · clear hC41
      try simp at hc41
      refine swp_exit ?_
      simp [thn, inBlk]
      refine hK34 _ ?_; clear hK34
      refine swp_seq fun K45 hK45 => ?_
      refine swp_region ty_ok ?_
      try simp (maxSteps := 1000000) [zL_eq, zL_len, seZ_len, stZ_len]
      repeat' (first | apply And.intro | intro _)
      any_goals (first | (refine hK45 _ ?_; clear hK45) | (first | omega | (simp only [IntKind.wrap_i64] at *; omega) | (simp_all; done) | (simp_all; omega)))
      refine swp_ret ?_
      simp [fnPost, Try.results69, resP, tupOf]
      have hwn : w = (maN s).toNat := by omega
      subst hwn
      simp [tnZ, List.map_replicate, seZ_len, stZ_len]

theorem rzero_P (rate s sh m : Int) (g : List Int) (hx : g.length ≤ 1000) (hz : chI rate s sh m g = 0) : PCall Try.prog 30 [.int .i64 rate, .agg [.int .u8 s, .int .u8 sh, .int .i64 m, .ro (.ints .i64 g)]] (.tup [.agg [.int .i64 0, .int .u8 s, .int .u8 sh, .int .i64 m, .ro (.ints .i64 g), .ro (.rows 1 ((seZ m g.length).map fun w => [PV.ro (.rows 2 (w.map Sc.row))])), .ro (.rows 1 ((stZ m g.length).map fun w => [PV.ro (.ints .i64 w)])), .ro (.rows 1 ((tnZ (winI s sh m g)).map fun w => [PV.ro (.rows 5 (w.map Fl.row))])), .ro (.ints .i64 zL)], .int .i64 0]) := by
  obtain ⟨hr, _, _, _, _, _, hmy, _⟩ := chI_zero hz
  obtain ⟨hm40, _, hmw⟩ := m_bd hr hmy
  refine pcall_body ty_ok Try.func30 rfl (by rfl) (by simp) ?_
  rw [Try.ntmps30]
  refine swp_seq fun K1 hK1 => ?_
  refine swp_region ty_ok ?_
  try simp (maxSteps := 1000000)
  repeat' (first | apply And.intro | intro _)
  any_goals (first | (refine hK1 _ ?_; clear hK1) | (first | omega | (simp only [IntKind.wrap_i64] at *; omega) | (simp_all; done) | (simp_all; omega)))
  refine swp_seq fun K2 hK2 => ?_
  refine swp_region ty_ok ?_
  refine runs_cut 2 fun R3 hR3 => ?_
  try simp (maxSteps := 1000000) [List.take_succ_cons, List.take_zero, List.drop_succ_cons, List.drop_zero]
  repeat' (first | apply And.intro | intro _)
  any_goals (first | (refine hR3 _ ?_; clear hR3) | (first | omega | (simp only [IntKind.wrap_i64] at *; omega) | (simp_all; done) | (simp_all; omega)))
  refine runs_cut 1 fun R4 hR4 => ?_
  try simp (maxSteps := 1000000) [List.take_succ_cons, List.take_zero, List.drop_succ_cons, List.drop_zero]
  refine .inl ⟨_, (by have h := reedpiperef10_Check_ok rate s sh m g (by omega); rw [hz] at h; exact h), ?_⟩
  try simp (maxSteps := 1000000)
  repeat' (first | apply And.intro | intro _)
  any_goals (first | (refine hR4 _ ?_; clear hR4) | (first | omega | (simp only [IntKind.wrap_i64] at *; omega) | (simp_all; done) | (simp_all; omega)))
  try simp (maxSteps := 1000000) [List.take_succ_cons, List.take_zero, List.drop_succ_cons, List.drop_zero]
  repeat' (first | apply And.intro | intro _)
  any_goals (first | (refine hK2 _ ?_; clear hK2) | (first | omega | (simp only [IntKind.wrap_i64] at *; omega) | (simp_all; done) | (simp_all; omega)))
  refine swp_seq fun K5 hK5 => ?_
  refine swp_seq fun K6 hK6 => ?_
  refine swp_region ty_ok ?_
  try simp (maxSteps := 1000000)
  repeat' (first | apply And.intro | intro _)
  any_goals (first | (refine hK6 _ ?_; clear hK6) | (first | omega | (simp only [IntKind.wrap_i64] at *; omega) | (simp_all; done) | (simp_all; omega)))
  refine swp_if fun C7 hC7 => ?_
  try simp (maxSteps := 1000000)
  refine hC7 _ (fun hc7 => ?_) (fun hc7 => ?_)
  · exact absurd hc7 (by simp)
  · clear hC7
    try simp at hc7
    refine swp_skip ?_
    simp only [thn, inBlk]
    refine hK5 _ ?_; clear hK5
    refine swp_seq fun K8 hK8 => ?_
    refine swp_region ty_ok ?_
    refine runs_cut 1 fun R9 hR9 => ?_
    try simp (maxSteps := 1000000) [List.take_succ_cons, List.take_zero, List.drop_succ_cons, List.drop_zero]
    repeat' (first | apply And.intro | intro _)
    any_goals (first | (refine hR9 _ ?_; clear hR9) | (first | omega | (simp only [IntKind.wrap_i64] at *; omega) | (simp_all; done) | (simp_all; omega)))
    refine runs_cut 1 fun R10 hR10 => ?_
    try simp (maxSteps := 1000000) [List.take_succ_cons, List.take_zero, List.drop_succ_cons, List.drop_zero]
    refine .inl ⟨_, (by have h := nothing_P s sh m g hx hm40; rw [hmw] at h; exact h), ?_⟩
    try simp (maxSteps := 1000000)
    repeat' (first | apply And.intro | intro _)
    any_goals (first | (refine hR10 _ ?_; clear hR10) | (first | omega | (simp only [IntKind.wrap_i64] at *; omega) | (simp_all; done) | (simp_all; omega)))
    try simp (maxSteps := 1000000) [List.take_succ_cons, List.take_zero, List.drop_succ_cons, List.drop_zero]
    repeat' (first | apply And.intro | intro _)
    any_goals (first | (refine hK8 _ ?_; clear hK8) | (first | omega | (simp only [IntKind.wrap_i64] at *; omega) | (simp_all; done) | (simp_all; omega)))
    refine swp_ret ?_
    simp [fnPost, Try.results30, resP, tupOf]

theorem rzero_B (rate s sh m : Int) (g : List Int) (hx : g.length ≤ 1000) (hz : ¬ chI rate s sh m g = 0) : PCall Try.prog 30 [.int .i64 rate, .agg [.int .u8 s, .int .u8 sh, .int .i64 m, .ro (.ints .i64 g)]] (.tup [.agg [.int .i64 0, .int .u8 0, .int .u8 0, .int .i64 0, .ro (.ints .i64 []), .ro (.rows 1 []), .ro (.rows 1 []), .ro (.rows 1 []), .ro (.ints .i64 [])], .int .i64 (chI rate s sh m g)]) := by
  refine pcall_body ty_ok Try.func30 rfl (by rfl) (by simp) ?_
  rw [Try.ntmps30]
  refine swp_seq fun K1 hK1 => ?_
  refine swp_region ty_ok ?_
  try simp (maxSteps := 1000000)
  repeat' (first | apply And.intro | intro _)
  any_goals (first | (refine hK1 _ ?_; clear hK1) | (first | omega | (simp only [IntKind.wrap_i64] at *; omega) | (simp_all; done) | (simp_all; omega)))
  refine swp_seq fun K2 hK2 => ?_
  refine swp_region ty_ok ?_
  refine runs_cut 2 fun R3 hR3 => ?_
  try simp (maxSteps := 1000000) [List.take_succ_cons, List.take_zero, List.drop_succ_cons, List.drop_zero]
  repeat' (first | apply And.intro | intro _)
  any_goals (first | (refine hR3 _ ?_; clear hR3) | (first | omega | (simp only [IntKind.wrap_i64] at *; omega) | (simp_all; done) | (simp_all; omega)))
  refine runs_cut 1 fun R4 hR4 => ?_
  try simp (maxSteps := 1000000) [List.take_succ_cons, List.take_zero, List.drop_succ_cons, List.drop_zero]
  refine .inl ⟨_, reedpiperef10_Check_ok rate s sh m g (by omega), ?_⟩
  try simp (maxSteps := 1000000)
  repeat' (first | apply And.intro | intro _)
  any_goals (first | (refine hR4 _ ?_; clear hR4) | (first | omega | (simp only [IntKind.wrap_i64] at *; omega) | (simp_all; done) | (simp_all; omega)))
  try simp (maxSteps := 1000000) [List.take_succ_cons, List.take_zero, List.drop_succ_cons, List.drop_zero]
  repeat' (first | apply And.intro | intro _)
  any_goals (first | (refine hK2 _ ?_; clear hK2) | (first | omega | (simp only [IntKind.wrap_i64] at *; omega) | (simp_all; done) | (simp_all; omega)))
  refine swp_seq fun K5 hK5 => ?_
  refine swp_seq fun K6 hK6 => ?_
  refine swp_region ty_ok ?_
  try simp (maxSteps := 1000000)
  repeat' (first | apply And.intro | intro _)
  any_goals (first | (refine hK6 _ ?_; clear hK6) | (first | omega | (simp only [IntKind.wrap_i64] at *; omega) | (simp_all; done) | (simp_all; omega)))
  refine swp_if fun C7 hC7 => ?_
  try simp (maxSteps := 1000000)
  refine hC7 _ (fun hc7 => ?_) (fun hc7 => ?_)
  · clear hC7
    try simp at hc7
    refine swp_seq fun K8 hK8 => ?_
    refine swp_region ty_ok ?_
    try simp (maxSteps := 1000000)
    repeat' (first | apply And.intro | intro _)
    any_goals (first | (refine hK8 _ ?_; clear hK8) | (first | omega | (simp only [IntKind.wrap_i64] at *; omega) | (simp_all; done) | (simp_all; omega)))
    refine swp_ret ?_
    simp [fnPost, Try.results30, resP, tupOf]
  · exact absurd (by simpa using hc7) hz

set_option maxHeartbeats 8000000 in
theorem laneTells_yes (rate : Int) (ga s sh m : Int) (g : List Int) (se : List (List Sc)) (st : List (List Int)) (tn : List (List Fl)) (ln : List Int) (hs0 : (0 ≤ s ∧ s ≤ 255) ∧ 0 ≤ sh ∧ sh ≤ 255) (gi b : Int) (hbb : -9223372036854775808 ≤ b ∧ b ≤ 9223372036854775807) (hz : chI rate s sh m g = 0) : PCall Try.prog 9 [.int .i64 rate, .agg [.int .i64 ga, .int .u8 s, .int .u8 sh, .int .i64 m, .ro (.ints .i64 g), .ro (.rows 1 (se.map fun w => [.ro (.rows 2 (w.map Sc.row))])), .ro (.rows 1 (st.map fun w => [.ro (.ints .i64 w)])), .ro (.rows 1 (tn.map fun w => [.ro (.rows 5 (w.map Fl.row))])), .ro (.ints .i64 ln)], .int .i64 gi, .int .i64 b] (.bool true) := by
  refine pcall_body ty_ok Try.func9 rfl (by rfl) (by simp) ?_
  rw [Try.ntmps9]
  refine swp_seq fun K1 hK1 => ?_
  refine swp_region ty_ok ?_
  try simp (maxSteps := 1000000)
  repeat' (first | apply And.intro | intro _)
  any_goals (first | (refine hK1 _ ?_; clear hK1) | (first | omega | (simp only [IntKind.wrap_i64] at *; omega) | (simp_all; done) | (simp_all; omega)))
  refine swp_seq fun K2 hK2 => ?_
  refine swp_seq fun K3 hK3 => ?_
  refine swp_region ty_ok ?_
  refine runs_cut 1 fun R4 hR4 => ?_
  try simp (maxSteps := 1000000) [List.take_succ_cons, List.take_zero, List.drop_succ_cons, List.drop_zero]
  repeat' (first | apply And.intro | intro _)
  any_goals (first | (refine hR4 _ ?_; clear hR4) | (first | omega | (simp only [IntKind.wrap_i64] at *; omega) | (simp_all; done) | (simp_all; omega)))
  try simp (maxSteps := 1000000) [List.take_succ_cons, List.take_zero, List.drop_succ_cons, List.drop_zero]
  refine .inl ⟨_, reedpiperef18_Great_ok ga s sh m g se st tn ln, ?_⟩
  try simp (maxSteps := 1000000)
  repeat' (first | apply And.intro | intro _)
  any_goals (first | (refine hK3 _ ?_; clear hK3) | (first | omega | (simp only [IntKind.wrap_i64] at *; omega) | (simp_all; done) | (simp_all; omega)))
  refine swp_if fun C5 hC5 => ?_
  try simp (maxSteps := 1000000)
  refine hC5 _ (fun hc5 => ?_) (fun hc5 => ?_)
  · clear hC5
    try simp at hc5
    refine swp_seq fun K6 hK6 => ?_
    refine swp_region ty_ok ?_
    try simp (maxSteps := 1000000)
    repeat' (first | apply And.intro | intro _)
    any_goals (first | (refine hK6 _ ?_; clear hK6) | (first | omega | (simp only [IntKind.wrap_i64] at *; omega) | (simp_all; done) | (simp_all; omega)))
    refine swp_ret ?_
    simp [fnPost, Try.results9, resP, tupOf]
  · clear hC5
    try simp at hc5
    refine swp_skip ?_
    simp only [thn, inBlk]
    refine hK2 _ ?_; clear hK2
    refine swp_seq fun K7 hK7 => ?_
    have hgr : grC g se st tn ln = false := (by have h := hc5; simp_all)
    have hLk := gr_len hgr
    have hg40 : g.length ≤ 40 ∧ ln.length ≤ 2000 := ⟨(grC_no hgr).1, (grC_no hgr).2.2.2.2.1⟩
    obtain ⟨hr, _, _, _, _, _, hmy, hm11⟩ := chI_zero hz
    obtain ⟨hm40, _, hmw⟩ := m_bd hr hmy
    have hZl := zero_len (g := g) (m := m) (s := s) (sh := sh) (by omega) (by omega) (may_pos hm11).2.2
    refine swp_region ty_ok ?_
    refine runs_cut 1 fun R8 hR8 => ?_
    try simp (maxSteps := 1000000) [List.take_succ_cons, List.take_zero, List.drop_succ_cons, List.drop_zero]
    repeat' (first | apply And.intro | intro _)
    any_goals (first | (refine hR8 _ ?_; clear hR8) | (first | omega | (simp only [IntKind.wrap_i64] at *; omega) | (simp_all; done) | (simp_all; omega)))
    refine runs_cut 1 fun R9 hR9 => ?_
    try simp (maxSteps := 1000000) [List.take_succ_cons, List.take_zero, List.drop_succ_cons, List.drop_zero]
    refine .inr (hcl_mk (tw1 ga s sh m g se st tn ln hLk (by omega)) (by simp [PV.ids, id1, getH, Blk.inL, Cells.inL, inL1]) (by simp [PV.inL, inL1]) (by simp) ?_)
    try simp (maxSteps := 1000000)
    repeat' (first | apply And.intro | intro _)
    any_goals (first | (refine hR9 _ ?_; clear hR9) | (first | omega | (simp only [IntKind.wrap_i64] at *; omega) | (simp_all; done) | (simp_all; omega)))
    try simp (maxSteps := 1000000) [List.take_succ_cons, List.take_zero, List.drop_succ_cons, List.drop_zero]
    repeat' (first | apply And.intro | intro _)
    any_goals (first | (refine hK7 _ ?_; clear hK7) | (first | omega | (simp only [IntKind.wrap_i64] at *; omega) | (simp_all; done) | (simp_all; omega)))
    refine swp_seq fun K10 hK10 => ?_
    refine swp_region ty_ok ?_
    refine runs_cut 3 fun R11 hR11 => ?_
    try simp (maxSteps := 1000000) [List.take_succ_cons, List.take_zero, List.drop_succ_cons, List.drop_zero]
    repeat' (first | apply And.intro | intro _)
    any_goals (first | (refine hR11 _ ?_; clear hR11) | (first | omega | (simp only [IntKind.wrap_i64] at *; omega) | (simp_all; done) | (simp_all; omega)))
    refine runs_cut 1 fun R12 hR12 => ?_
    try simp (maxSteps := 1000000) [List.take_succ_cons, List.take_zero, List.drop_succ_cons, List.drop_zero]
    refine .inl ⟨_, zero_P rate s sh m g hs0 (by omega) hz, ?_⟩
    try simp (maxSteps := 1000000)
    repeat' (first | apply And.intro | intro _)
    any_goals (first | (refine hR12 _ ?_; clear hR12) | (first | omega | (simp only [IntKind.wrap_i64] at *; omega) | (simp_all; done) | (simp_all; omega)))
    try simp (maxSteps := 1000000) [List.take_succ_cons, List.take_zero, List.drop_succ_cons, List.drop_zero]
    repeat' (first | apply And.intro | intro _)
    any_goals (first | (refine hK10 _ ?_; clear hK10) | (first | omega | (simp only [IntKind.wrap_i64] at *; omega) | (simp_all; done) | (simp_all; omega)))
    refine swp_seq fun K13 hK13 => ?_
    refine swp_region ty_ok ?_
    refine runs_cut 3 fun R14 hR14 => ?_
    try simp (maxSteps := 1000000) [List.take_succ_cons, List.take_zero, List.drop_succ_cons, List.drop_zero]
    repeat' (first | apply And.intro | intro _)
    any_goals (first | (refine hR14 _ ?_; clear hR14) | (first | omega | (simp only [IntKind.wrap_i64] at *; omega) | (simp_all; done) | (simp_all; omega)))
    refine runs_cut 1 fun R15 hR15 => ?_
    try simp (maxSteps := 1000000) [List.take_succ_cons, List.take_zero, List.drop_succ_cons, List.drop_zero]
    refine .inl ⟨_, rzero_P rate s sh m g (by omega) hz, ?_⟩
    try simp (maxSteps := 1000000)
    repeat' (first | apply And.intro | intro _)
    any_goals (first | (refine hR15 _ ?_; clear hR15) | (first | omega | (simp only [IntKind.wrap_i64] at *; omega) | (simp_all; done) | (simp_all; omega)))
    try simp (maxSteps := 1000000) [List.take_succ_cons, List.take_zero, List.drop_succ_cons, List.drop_zero]
    repeat' (first | apply And.intro | intro _)
    any_goals (first | (refine hK13 _ ?_; clear hK13) | (first | omega | (simp only [IntKind.wrap_i64] at *; omega) | (simp_all; done) | (simp_all; omega)))
    refine swp_seq fun K16 hK16 => ?_
    refine swp_region ty_ok ?_
    refine runs_cut 4 fun R17 hR17 => ?_
    try simp (maxSteps := 1000000) [List.take_succ_cons, List.take_zero, List.drop_succ_cons, List.drop_zero]
    repeat' (first | apply And.intro | intro _)
    any_goals (first | (refine hR17 _ ?_; clear hR17) | (first | omega | (simp only [IntKind.wrap_i64] at *; omega) | (simp_all; done) | (simp_all; omega)))
    refine runs_cut 1 fun R18 hR18 => ?_
    try simp (maxSteps := 1000000) [List.take_succ_cons, List.take_zero, List.drop_succ_cons, List.drop_zero]
    refine .inl ⟨_, lane_Book_ok se gi b hLk.2.1 hbb, ?_⟩
    try simp (maxSteps := 1000000)
    repeat' (first | apply And.intro | intro _)
    any_goals (first | (refine hR18 _ ?_; clear hR18) | (first | omega | (simp only [IntKind.wrap_i64] at *; omega) | (simp_all; done) | (simp_all; omega)))
    try simp (maxSteps := 1000000) [List.take_succ_cons, List.take_zero, List.drop_succ_cons, List.drop_zero]
    repeat' (first | apply And.intro | intro _)
    any_goals (first | (refine hK16 _ ?_; clear hK16) | (first | omega | (simp only [IntKind.wrap_i64] at *; omega) | (simp_all; done) | (simp_all; omega)))
    refine swp_seq fun K19 hK19 => ?_
    refine swp_region ty_ok ?_
    refine runs_cut 4 fun R20 hR20 => ?_
    try simp (maxSteps := 1000000) [List.take_succ_cons, List.take_zero, List.drop_succ_cons, List.drop_zero]
    repeat' (first | apply And.intro | intro _)
    any_goals (first | (refine hR20 _ ?_; clear hR20) | (first | omega | (simp only [IntKind.wrap_i64] at *; omega) | (simp_all; done) | (simp_all; omega)))
    refine runs_cut 1 fun R21 hR21 => ?_
    try simp (maxSteps := 1000000) [List.take_succ_cons, List.take_zero, List.drop_succ_cons, List.drop_zero]
    refine .inl ⟨_, rbook_ok se gi b hLk.2.1 hbb, ?_⟩
    try simp (maxSteps := 1000000)
    repeat' (first | apply And.intro | intro _)
    any_goals (first | (refine hR21 _ ?_; clear hR21) | (first | omega | (simp only [IntKind.wrap_i64] at *; omega) | (simp_all; done) | (simp_all; omega)))
    try simp (maxSteps := 1000000) [List.take_succ_cons, List.take_zero, List.drop_succ_cons, List.drop_zero]
    repeat' (first | apply And.intro | intro _)
    any_goals (first | (refine hK19 _ ?_; clear hK19) | (first | omega | (simp only [IntKind.wrap_i64] at *; omega) | (simp_all; done) | (simp_all; omega)))
    refine swp_seq fun K22 hK22 => ?_
    refine swp_draw ty_ok mixed (ms := [0, 0, 3, 0, 0, 31, 63, 127, 255, 255, 1023, 2047, 4095, 8191, 8191, 32767, 65535, 131071, 262143, 262143, 1048575, 2097151, 4194303, 8388607, 8388607, 33554431, 67108863, 134217727, 268435455, 268435455, 1073741823, 2147483647, 4294967295]) (by kernel_rfl) ?_
    refine runD_cut 2 fun R23 hR23 => ?_
    try simp (maxSteps := 1000000) [List.take_succ_cons, List.take_zero, List.drop_succ_cons, List.drop_zero]
    repeat' (first | apply And.intro | intro _)
    any_goals (first | (refine hR23 _ _ _ _ ?_; clear hR23) | (first | omega | (simp only [IntKind.wrap_i64] at *; omega) | (simp_all; done) | (simp_all; omega)))
    refine runD_cut 1 fun R24 hR24 => ?_
    try simp (maxSteps := 1000000) [List.take_succ_cons, List.take_zero, List.drop_succ_cons, List.drop_zero]
    refine .inl ⟨_, lane_Check_ok rate ga s sh m g se st tn ln hLk, ?_⟩
    try simp (maxSteps := 1000000)
    repeat' (first | apply And.intro | intro _)
    any_goals (first | (refine hR24 _ _ _ _ ?_; clear hR24) | (first | omega | (simp only [IntKind.wrap_i64] at *; omega) | (simp_all; done) | (simp_all; omega)))
    refine runD_cut 2 fun R25 hR25 => ?_
    try simp (maxSteps := 1000000) [List.take_succ_cons, List.take_zero, List.drop_succ_cons, List.drop_zero]
    repeat' (first | apply And.intro | intro _)
    any_goals (first | (refine hR25 _ _ _ _ ?_; clear hR25) | (first | omega | (simp only [IntKind.wrap_i64] at *; omega) | (simp_all; done) | (simp_all; omega)))
    refine runD_cut 1 fun R26 hR26 => ?_
    try simp (maxSteps := 1000000) [List.take_succ_cons, List.take_zero, List.drop_succ_cons, List.drop_zero]
    refine .inl ⟨_, rcheck_ok rate ga s sh m g se st tn ln hLk, ?_⟩
    try simp (maxSteps := 1000000)
    repeat' (first | apply And.intro | intro _)
    any_goals (first | (refine hR26 _ _ _ _ ?_; clear hR26) | (first | omega | (simp only [IntKind.wrap_i64] at *; omega) | (simp_all; done) | (simp_all; omega)))
    refine runD_cut 4 fun R27 hR27 => ?_
    try simp (maxSteps := 1000000) [List.take_succ_cons, List.take_zero, List.drop_succ_cons, List.drop_zero]
    repeat' (first | apply And.intro | intro _)
    any_goals (first | (refine hR27 _ _ _ _ ?_; clear hR27) | (first | omega | (simp only [IntKind.wrap_i64] at *; omega) | (simp_all; done) | (simp_all; omega)))
    refine runD_cut 1 fun R28 hR28 => ?_
    try simp (maxSteps := 1000000) [List.take_succ_cons, List.take_zero, List.drop_succ_cons, List.drop_zero]
    first | refine ⟨_, by (intros; exact Or.inl (by have h := rsame_ok 0 s sh m g (seZ m g.length) (stZ m g.length) (tnZ (winI s sh m g)) zL 0 s sh m g (seZ m g.length) (stZ m g.length) (tnZ (winI s sh m g)) zL hZl (by rw [zL_len]; omega); rw [same_y] at h; first | exact ⟨h, rfl⟩ | exact h)), ?_⟩
    repeat' (first | apply And.intro | intro _)
    any_goals (first | (refine hR28 _ _ _ _ ?_; clear hR28) | (first | omega | (simp only [IntKind.wrap_i64] at *; omega) | (simp_all; done) | (simp_all; omega)))
    refine runD_cut 9 fun R29 hR29 => ?_
    try simp (maxSteps := 1000000) [List.take_succ_cons, List.take_zero, List.drop_succ_cons, List.drop_zero]
    repeat' (first | apply And.intro | intro _)
    any_goals (first | (refine hR29 _ _ _ _ ?_; clear hR29) | (first | omega | (simp only [IntKind.wrap_i64] at *; omega) | (simp_all; done) | (simp_all; omega)))
    refine runD_cut 10 fun R30 hR30 => ?_
    try simp (maxSteps := 1000000) [List.take_succ_cons, List.take_zero, List.drop_succ_cons, List.drop_zero]
    repeat' (first | apply And.intro | intro _)
    any_goals (first | (refine hR30 _ _ _ _ ?_; clear hR30) | (first | omega | (simp only [IntKind.wrap_i64] at *; omega) | (simp_all; done) | (simp_all; omega)))
    refine runD_cut 1 fun R31 hR31 => ?_
    try simp (maxSteps := 1000000) [List.take_succ_cons, List.take_zero, List.drop_succ_cons, List.drop_zero]
    first | refine ⟨_, by (intros; exact Or.inl (by have h := rsame_ok ga s sh m g se st tn ln ga s sh m g se st tn ln hLk (by omega); rw [same_y] at h; first | exact ⟨h, rfl⟩ | exact h)), ?_⟩
    repeat' (first | apply And.intro | intro _)
    any_goals (first | (refine hR31 _ _ _ _ ?_; clear hR31) | (first | omega | (simp only [IntKind.wrap_i64] at *; omega) | (simp_all; done) | (simp_all; omega)))
    try simp (maxSteps := 1000000) [List.take_succ_cons, List.take_zero, List.drop_succ_cons, List.drop_zero]
    repeat' (first | apply And.intro | intro _)
    any_goals (first | kernel_rfl | (refine hK22 _ ?_; clear hK22) | (first | omega | (simp only [IntKind.wrap_i64] at *; omega) | (simp_all; done) | (simp_all; omega)))
    refine swp_ret ?_
    simp [fnPost, Try.results9, resP, tupOf]

set_option maxHeartbeats 8000000 in
theorem laneTells_no (rate : Int) (ga s sh m : Int) (g : List Int) (se : List (List Sc)) (st : List (List Int)) (tn : List (List Fl)) (ln : List Int) (hs0 : (0 ≤ s ∧ s ≤ 255) ∧ 0 ≤ sh ∧ sh ≤ 255) (gi b : Int) (hbb : -9223372036854775808 ≤ b ∧ b ≤ 9223372036854775807) (hz : ¬ chI rate s sh m g = 0) : PCall Try.prog 9 [.int .i64 rate, .agg [.int .i64 ga, .int .u8 s, .int .u8 sh, .int .i64 m, .ro (.ints .i64 g), .ro (.rows 1 (se.map fun w => [.ro (.rows 2 (w.map Sc.row))])), .ro (.rows 1 (st.map fun w => [.ro (.ints .i64 w)])), .ro (.rows 1 (tn.map fun w => [.ro (.rows 5 (w.map Fl.row))])), .ro (.ints .i64 ln)], .int .i64 gi, .int .i64 b] (.bool true) := by
  refine pcall_body ty_ok Try.func9 rfl (by rfl) (by simp) ?_
  rw [Try.ntmps9]
  refine swp_seq fun K1 hK1 => ?_
  refine swp_region ty_ok ?_
  try simp (maxSteps := 1000000)
  repeat' (first | apply And.intro | intro _)
  any_goals (first | (refine hK1 _ ?_; clear hK1) | (first | omega | (simp only [IntKind.wrap_i64] at *; omega) | (simp_all; done) | (simp_all; omega)))
  refine swp_seq fun K2 hK2 => ?_
  refine swp_seq fun K3 hK3 => ?_
  refine swp_region ty_ok ?_
  refine runs_cut 1 fun R4 hR4 => ?_
  try simp (maxSteps := 1000000) [List.take_succ_cons, List.take_zero, List.drop_succ_cons, List.drop_zero]
  repeat' (first | apply And.intro | intro _)
  any_goals (first | (refine hR4 _ ?_; clear hR4) | (first | omega | (simp only [IntKind.wrap_i64] at *; omega) | (simp_all; done) | (simp_all; omega)))
  try simp (maxSteps := 1000000) [List.take_succ_cons, List.take_zero, List.drop_succ_cons, List.drop_zero]
  refine .inl ⟨_, reedpiperef18_Great_ok ga s sh m g se st tn ln, ?_⟩
  try simp (maxSteps := 1000000)
  repeat' (first | apply And.intro | intro _)
  any_goals (first | (refine hK3 _ ?_; clear hK3) | (first | omega | (simp only [IntKind.wrap_i64] at *; omega) | (simp_all; done) | (simp_all; omega)))
  refine swp_if fun C5 hC5 => ?_
  try simp (maxSteps := 1000000)
  refine hC5 _ (fun hc5 => ?_) (fun hc5 => ?_)
  · clear hC5
    try simp at hc5
    refine swp_seq fun K6 hK6 => ?_
    refine swp_region ty_ok ?_
    try simp (maxSteps := 1000000)
    repeat' (first | apply And.intro | intro _)
    any_goals (first | (refine hK6 _ ?_; clear hK6) | (first | omega | (simp only [IntKind.wrap_i64] at *; omega) | (simp_all; done) | (simp_all; omega)))
    refine swp_ret ?_
    simp [fnPost, Try.results9, resP, tupOf]
  · clear hC5
    try simp at hc5
    refine swp_skip ?_
    simp only [thn, inBlk]
    refine hK2 _ ?_; clear hK2
    refine swp_seq fun K7 hK7 => ?_
    have hgr : grC g se st tn ln = false := (by have h := hc5; simp_all)
    have hLk := gr_len hgr
    have hg40 : g.length ≤ 40 ∧ ln.length ≤ 2000 := ⟨(grC_no hgr).1, (grC_no hgr).2.2.2.2.1⟩
    refine swp_region ty_ok ?_
    refine runs_cut 1 fun R8 hR8 => ?_
    try simp (maxSteps := 1000000) [List.take_succ_cons, List.take_zero, List.drop_succ_cons, List.drop_zero]
    repeat' (first | apply And.intro | intro _)
    any_goals (first | (refine hR8 _ ?_; clear hR8) | (first | omega | (simp only [IntKind.wrap_i64] at *; omega) | (simp_all; done) | (simp_all; omega)))
    refine runs_cut 1 fun R9 hR9 => ?_
    try simp (maxSteps := 1000000) [List.take_succ_cons, List.take_zero, List.drop_succ_cons, List.drop_zero]
    refine .inr (hcl_mk (tw1 ga s sh m g se st tn ln hLk (by omega)) (by simp [PV.ids, id1, getH, Blk.inL, Cells.inL, inL1]) (by simp [PV.inL, inL1]) (by simp) ?_)
    try simp (maxSteps := 1000000)
    repeat' (first | apply And.intro | intro _)
    any_goals (first | (refine hR9 _ ?_; clear hR9) | (first | omega | (simp only [IntKind.wrap_i64] at *; omega) | (simp_all; done) | (simp_all; omega)))
    try simp (maxSteps := 1000000) [List.take_succ_cons, List.take_zero, List.drop_succ_cons, List.drop_zero]
    repeat' (first | apply And.intro | intro _)
    any_goals (first | (refine hK7 _ ?_; clear hK7) | (first | omega | (simp only [IntKind.wrap_i64] at *; omega) | (simp_all; done) | (simp_all; omega)))
    refine swp_seq fun K10 hK10 => ?_
    refine swp_region ty_ok ?_
    refine runs_cut 3 fun R11 hR11 => ?_
    try simp (maxSteps := 1000000) [List.take_succ_cons, List.take_zero, List.drop_succ_cons, List.drop_zero]
    repeat' (first | apply And.intro | intro _)
    any_goals (first | (refine hR11 _ ?_; clear hR11) | (first | omega | (simp only [IntKind.wrap_i64] at *; omega) | (simp_all; done) | (simp_all; omega)))
    refine runs_cut 1 fun R12 hR12 => ?_
    try simp (maxSteps := 1000000) [List.take_succ_cons, List.take_zero, List.drop_succ_cons, List.drop_zero]
    refine .inl ⟨_, zero_B rate s sh m g hs0 (by omega) hz, ?_⟩
    try simp (maxSteps := 1000000)
    repeat' (first | apply And.intro | intro _)
    any_goals (first | (refine hR12 _ ?_; clear hR12) | (first | omega | (simp only [IntKind.wrap_i64] at *; omega) | (simp_all; done) | (simp_all; omega)))
    try simp (maxSteps := 1000000) [List.take_succ_cons, List.take_zero, List.drop_succ_cons, List.drop_zero]
    repeat' (first | apply And.intro | intro _)
    any_goals (first | (refine hK10 _ ?_; clear hK10) | (first | omega | (simp only [IntKind.wrap_i64] at *; omega) | (simp_all; done) | (simp_all; omega)))
    refine swp_seq fun K13 hK13 => ?_
    refine swp_region ty_ok ?_
    refine runs_cut 3 fun R14 hR14 => ?_
    try simp (maxSteps := 1000000) [List.take_succ_cons, List.take_zero, List.drop_succ_cons, List.drop_zero]
    repeat' (first | apply And.intro | intro _)
    any_goals (first | (refine hR14 _ ?_; clear hR14) | (first | omega | (simp only [IntKind.wrap_i64] at *; omega) | (simp_all; done) | (simp_all; omega)))
    refine runs_cut 1 fun R15 hR15 => ?_
    try simp (maxSteps := 1000000) [List.take_succ_cons, List.take_zero, List.drop_succ_cons, List.drop_zero]
    refine .inl ⟨_, rzero_B rate s sh m g (by omega) hz, ?_⟩
    try simp (maxSteps := 1000000)
    repeat' (first | apply And.intro | intro _)
    any_goals (first | (refine hR15 _ ?_; clear hR15) | (first | omega | (simp only [IntKind.wrap_i64] at *; omega) | (simp_all; done) | (simp_all; omega)))
    try simp (maxSteps := 1000000) [List.take_succ_cons, List.take_zero, List.drop_succ_cons, List.drop_zero]
    repeat' (first | apply And.intro | intro _)
    any_goals (first | (refine hK13 _ ?_; clear hK13) | (first | omega | (simp only [IntKind.wrap_i64] at *; omega) | (simp_all; done) | (simp_all; omega)))
    refine swp_seq fun K16 hK16 => ?_
    refine swp_region ty_ok ?_
    refine runs_cut 4 fun R17 hR17 => ?_
    try simp (maxSteps := 1000000) [List.take_succ_cons, List.take_zero, List.drop_succ_cons, List.drop_zero]
    repeat' (first | apply And.intro | intro _)
    any_goals (first | (refine hR17 _ ?_; clear hR17) | (first | omega | (simp only [IntKind.wrap_i64] at *; omega) | (simp_all; done) | (simp_all; omega)))
    refine runs_cut 1 fun R18 hR18 => ?_
    try simp (maxSteps := 1000000) [List.take_succ_cons, List.take_zero, List.drop_succ_cons, List.drop_zero]
    refine .inl ⟨_, lane_Book_ok se gi b hLk.2.1 hbb, ?_⟩
    try simp (maxSteps := 1000000)
    repeat' (first | apply And.intro | intro _)
    any_goals (first | (refine hR18 _ ?_; clear hR18) | (first | omega | (simp only [IntKind.wrap_i64] at *; omega) | (simp_all; done) | (simp_all; omega)))
    try simp (maxSteps := 1000000) [List.take_succ_cons, List.take_zero, List.drop_succ_cons, List.drop_zero]
    repeat' (first | apply And.intro | intro _)
    any_goals (first | (refine hK16 _ ?_; clear hK16) | (first | omega | (simp only [IntKind.wrap_i64] at *; omega) | (simp_all; done) | (simp_all; omega)))
    refine swp_seq fun K19 hK19 => ?_
    refine swp_region ty_ok ?_
    refine runs_cut 4 fun R20 hR20 => ?_
    try simp (maxSteps := 1000000) [List.take_succ_cons, List.take_zero, List.drop_succ_cons, List.drop_zero]
    repeat' (first | apply And.intro | intro _)
    any_goals (first | (refine hR20 _ ?_; clear hR20) | (first | omega | (simp only [IntKind.wrap_i64] at *; omega) | (simp_all; done) | (simp_all; omega)))
    refine runs_cut 1 fun R21 hR21 => ?_
    try simp (maxSteps := 1000000) [List.take_succ_cons, List.take_zero, List.drop_succ_cons, List.drop_zero]
    refine .inl ⟨_, rbook_ok se gi b hLk.2.1 hbb, ?_⟩
    try simp (maxSteps := 1000000)
    repeat' (first | apply And.intro | intro _)
    any_goals (first | (refine hR21 _ ?_; clear hR21) | (first | omega | (simp only [IntKind.wrap_i64] at *; omega) | (simp_all; done) | (simp_all; omega)))
    try simp (maxSteps := 1000000) [List.take_succ_cons, List.take_zero, List.drop_succ_cons, List.drop_zero]
    repeat' (first | apply And.intro | intro _)
    any_goals (first | (refine hK19 _ ?_; clear hK19) | (first | omega | (simp only [IntKind.wrap_i64] at *; omega) | (simp_all; done) | (simp_all; omega)))
    refine swp_seq fun K22 hK22 => ?_
    refine swp_draw ty_ok mixed (ms := [0, 0, 3, 0, 0, 31, 63, 127, 255, 255, 1023, 2047, 4095, 8191, 8191, 32767, 65535, 131071, 262143, 262143, 1048575, 2097151, 4194303, 8388607, 8388607, 33554431, 67108863, 134217727, 268435455, 268435455, 1073741823, 2147483647, 4294967295]) (by kernel_rfl) ?_
    refine runD_cut 2 fun R23 hR23 => ?_
    try simp (maxSteps := 1000000) [List.take_succ_cons, List.take_zero, List.drop_succ_cons, List.drop_zero]
    repeat' (first | apply And.intro | intro _)
    any_goals (first | (refine hR23 _ _ _ _ ?_; clear hR23) | (first | omega | (simp only [IntKind.wrap_i64] at *; omega) | (simp_all; done) | (simp_all; omega)))
    refine runD_cut 1 fun R24 hR24 => ?_
    try simp (maxSteps := 1000000) [List.take_succ_cons, List.take_zero, List.drop_succ_cons, List.drop_zero]
    refine .inl ⟨_, lane_Check_ok rate ga s sh m g se st tn ln hLk, ?_⟩
    try simp (maxSteps := 1000000)
    repeat' (first | apply And.intro | intro _)
    any_goals (first | (refine hR24 _ _ _ _ ?_; clear hR24) | (first | omega | (simp only [IntKind.wrap_i64] at *; omega) | (simp_all; done) | (simp_all; omega)))
    refine runD_cut 2 fun R25 hR25 => ?_
    try simp (maxSteps := 1000000) [List.take_succ_cons, List.take_zero, List.drop_succ_cons, List.drop_zero]
    repeat' (first | apply And.intro | intro _)
    any_goals (first | (refine hR25 _ _ _ _ ?_; clear hR25) | (first | omega | (simp only [IntKind.wrap_i64] at *; omega) | (simp_all; done) | (simp_all; omega)))
    refine runD_cut 1 fun R26 hR26 => ?_
    try simp (maxSteps := 1000000) [List.take_succ_cons, List.take_zero, List.drop_succ_cons, List.drop_zero]
    refine .inl ⟨_, rcheck_ok rate ga s sh m g se st tn ln hLk, ?_⟩
    try simp (maxSteps := 1000000)
    repeat' (first | apply And.intro | intro _)
    any_goals (first | (refine hR26 _ _ _ _ ?_; clear hR26) | (first | omega | (simp only [IntKind.wrap_i64] at *; omega) | (simp_all; done) | (simp_all; omega)))
    refine runD_cut 4 fun R27 hR27 => ?_
    try simp (maxSteps := 1000000) [List.take_succ_cons, List.take_zero, List.drop_succ_cons, List.drop_zero]
    repeat' (first | apply And.intro | intro _)
    any_goals (first | (refine hR27 _ _ _ _ ?_; clear hR27) | (first | omega | (simp only [IntKind.wrap_i64] at *; omega) | (simp_all; done) | (simp_all; omega)))
    refine runD_cut 1 fun R28 hR28 => ?_
    try simp (maxSteps := 1000000) [List.take_succ_cons, List.take_zero, List.drop_succ_cons, List.drop_zero]
    first | refine ⟨_, by (intros; exact Or.inl (by have h := rsame_ok 0 0 0 0 [] [] [] [] [] 0 0 0 0 [] [] [] [] [] ⟨by simp, by simp, by simp, by simp⟩ (by simp); rw [same_y] at h; first | exact ⟨h, rfl⟩ | exact h)), ?_⟩
    repeat' (first | apply And.intro | intro _)
    any_goals (first | (refine hR28 _ _ _ _ ?_; clear hR28) | (first | omega | (simp only [IntKind.wrap_i64] at *; omega) | (simp_all; done) | (simp_all; omega)))
    refine runD_cut 9 fun R29 hR29 => ?_
    try simp (maxSteps := 1000000) [List.take_succ_cons, List.take_zero, List.drop_succ_cons, List.drop_zero]
    repeat' (first | apply And.intro | intro _)
    any_goals (first | (refine hR29 _ _ _ _ ?_; clear hR29) | (first | omega | (simp only [IntKind.wrap_i64] at *; omega) | (simp_all; done) | (simp_all; omega)))
    refine runD_cut 10 fun R30 hR30 => ?_
    try simp (maxSteps := 1000000) [List.take_succ_cons, List.take_zero, List.drop_succ_cons, List.drop_zero]
    repeat' (first | apply And.intro | intro _)
    any_goals (first | (refine hR30 _ _ _ _ ?_; clear hR30) | (first | omega | (simp only [IntKind.wrap_i64] at *; omega) | (simp_all; done) | (simp_all; omega)))
    refine runD_cut 1 fun R31 hR31 => ?_
    try simp (maxSteps := 1000000) [List.take_succ_cons, List.take_zero, List.drop_succ_cons, List.drop_zero]
    first | refine ⟨_, by (intros; exact Or.inl (by have h := rsame_ok ga s sh m g se st tn ln ga s sh m g se st tn ln hLk (by omega); rw [same_y] at h; first | exact ⟨h, rfl⟩ | exact h)), ?_⟩
    repeat' (first | apply And.intro | intro _)
    any_goals (first | (refine hR31 _ _ _ _ ?_; clear hR31) | (first | omega | (simp only [IntKind.wrap_i64] at *; omega) | (simp_all; done) | (simp_all; omega)))
    try simp (maxSteps := 1000000) [List.take_succ_cons, List.take_zero, List.drop_succ_cons, List.drop_zero]
    repeat' (first | apply And.intro | intro _)
    any_goals (first | kernel_rfl | (refine hK22 _ ?_; clear hK22) | (first | omega | (simp only [IntKind.wrap_i64] at *; omega) | (simp_all; done) | (simp_all; omega)))
    refine swp_ret ?_
    simp [fnPost, Try.results9, resP, tupOf]

end Go.Proofs.Ytmkgfgdipkagbaa

