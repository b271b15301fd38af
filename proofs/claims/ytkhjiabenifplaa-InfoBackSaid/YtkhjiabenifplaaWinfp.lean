import Derived.Test.YtkhjiabenifplaaWb
import Derived.Test.YtkhjiabenifplaaTyi
import Derived.Test.YtkhjiabenifplaaWband
import Derived.Test.YtkhjiabenifplaaWinfo
import Derived.Test.YtkhjiabenifplaaWinfo2
import Derived.Test.YtkhjiabenifplaaWbits
namespace Go.Proofs.Ytkhjiabenifplaa
set_option linter.unusedVariables false
set_option linter.unusedSimpArgs false
set_option maxRecDepth 10000
open Go Go.Pv


open Go.RowKit
def grpB (g : List Int) (k : Nat) : List Int := (List.range k).map fun i => if grp g (i : Nat) = grp g ((i : Nat) + 1) then 1 else 0
def infB (s sh m : Int) (g : List Int) : List Int := bitsOf 0 1 ++ bitsOf s.toNat 2 ++ bitsOf sh.toNat 1 ++ (if s = 2 then bitsOf m.toNat 4 ++ grpB g 7 else bitsOf m.toNat 6 ++ bitsOf 0 1)
theorem grpB_succ (g : List Int) (k : Nat) : grpB g (k + 1) = grpB g k ++ [if grp g (k : Nat) = grp g ((k : Nat) + 1) then 1 else 0] := by
  simp [grpB, List.range_succ]
theorem grpB_len (g : List Int) (k : Nat) : (grpB g k).length = k := by simp [grpB]
theorem offs_short : ∀ a : Fin 12, (offs (a.val : Int) true).length ≤ 16 := by decide +kernel
theorem MB_short (a : Int) : MB a true ≤ 15 := by
  unfold MB
  by_cases h : a < 0 ∨ 11 < a
  · rw [if_pos h]; omega
  · rw [if_neg h]
    have := offs_short ⟨a.toNat, by omega⟩
    simp only [show ((a.toNat : Nat) : Int) = a by omega] at this
    omega
theorem chI_zero {rate s sh m : Int} {g : List Int} (h : chI rate s sh m g = 0) : (0 ≤ rate ∧ rate ≤ 11) ∧ s ≤ 3 ∧ sh ≤ 1 ∧ 0 ≤ m ∧ m ≤ MB rate (decide (s = 2)) ∧ okG s g = true ∧ mayI rate s sh m g = true ∧ mayI 11 s sh m g = true := by
  by_cases hr : rate < 0 ∨ 11 < rate
  · rw [chI_no hr] at h; cases h
  · rw [chI_may (by omega)] at h
    cases hm : mayI rate s sh m g with
    | false => rw [hm] at h; cases h
    | true =>
      have h2 := hm
      unfold mayI at h2
      rw [Bool.and_eq_true, decide_eq_true_eq] at h2
      exact ⟨by omega, h2.1.1, h2.1.2.1, h2.1.2.2.1, h2.1.2.2.2, h2.2, rfl, mayI_mono (a := rate) (by omega) hm⟩
theorem okp {n : Int} {s : Nat} (h : 0 ≤ n) (hs : s ≤ 31) (hn : n < 2 ^ s) : putOk n s = true := by
  obtain ⟨k, rfl⟩ := Int.eq_ofNat_of_zero_le h
  refine putOk_nat hs ?_
  have : ((2 ^ s : Nat) : Int) = (2 : Int) ^ s := by push_cast; rfl
  omega

theorem info_put1 (n : Nat) (xs : List Int) (num size : Int) (h : putOk num size = true) (hx : xs.length ≤ 17592186043000) (hn : -9223372036854775808 ≤ num ∧ num ≤ 9223372036854775807) : HCall Try.prog 53 [.int .i64 num, .int .i64 size, .ptr 0 0 0 1] [(0, some ⟨.rows 1 [[.ro (.ints .u8 xs)]], true, 44⟩)] n (.tup []) [(0, some ⟨.rows 1 [[.ro (.ints .u8 (xs ++ bitsOf num.toNat size.toNat))]], true, 44⟩)] := by
  have hl := putL_yes (b := xs) h
  have he := putE_yes h
  refine hcall_body ty_ok Try.func53 rfl (by rfl) (by simp) ?_
  rw [Try.ntmps53]
  refine swp_region ty_ok ?_
  refine runs_cut 3 fun R1 hR1 => ?_
  try simp (maxSteps := 1000000) [runs, gd, step1, need, evu, un, opnds, opv, ev, cst, cst1, cstL, getT, getH, putT, onL, nxt, argT, cellsOf, PV.one, thn, inBlk, jmp, fldP, ldP, ldC, live, Cells.len, Cells.get, Cells.w, sug, ldv, bin, ops2, sh2, binv, Tk.agg, stC, apC, rdS, apS, mvL, zp, argsP, idx, fillP, toInts, chunks, mkC, ixS, ixA, oidx, slP, sl0, mxF, bltn, frzA, frz, frzL, frz1, pur1, Cells.pur, PV.scal, scal1, runD, rdO, PV.ids, id1, zids, ety, Eff.on, cnd, minb, and1b, ifmax, ifmin, mxv, sugI, strv, w0, w1, w2, wm1, hl, he, List.take_succ_cons, List.take_zero, List.drop_succ_cons, List.drop_zero]
  repeat' (first | apply And.intro | intro _)
  any_goals (first | (refine hR1 _ ?_; clear hR1) | (first | omega | (simp only [IntKind.wrap_i64] at *; omega) | (simp_all; done) | (simp_all; omega)))
  refine runs_cut 1 fun R2 hR2 => ?_
  try simp (maxSteps := 1000000) [runs, gd, step1, need, evu, un, opnds, opv, ev, cst, cst1, cstL, getT, getH, putT, onL, nxt, argT, cellsOf, PV.one, thn, inBlk, jmp, fldP, ldP, ldC, live, Cells.len, Cells.get, Cells.w, sug, ldv, bin, ops2, sh2, binv, Tk.agg, stC, apC, rdS, apS, mvL, zp, argsP, idx, fillP, toInts, chunks, mkC, ixS, ixA, oidx, slP, sl0, mxF, bltn, frzA, frz, frzL, frz1, pur1, Cells.pur, PV.scal, scal1, runD, rdO, PV.ids, id1, zids, ety, Eff.on, cnd, minb, and1b, ifmax, ifmin, mxv, sugI, strv, w0, w1, w2, wm1, hl, he, List.take_succ_cons, List.take_zero, List.drop_succ_cons, List.drop_zero]
  refine .inl ⟨_, put_ok xs num size hx hn, ?_⟩
  try simp (maxSteps := 1000000) [runs, gd, step1, need, evu, un, opnds, opv, ev, cst, cst1, cstL, getT, getH, putT, onL, nxt, argT, cellsOf, PV.one, thn, inBlk, jmp, fldP, ldP, ldC, live, Cells.len, Cells.get, Cells.w, sug, ldv, bin, ops2, sh2, binv, Tk.agg, stC, apC, rdS, apS, mvL, zp, argsP, idx, fillP, toInts, chunks, mkC, ixS, ixA, oidx, slP, sl0, mxF, bltn, frzA, frz, frzL, frz1, pur1, Cells.pur, PV.scal, scal1, runD, rdO, PV.ids, id1, zids, ety, Eff.on, cnd, minb, and1b, ifmax, ifmin, mxv, sugI, strv, w0, w1, w2, wm1, hl, he]
  repeat' (first | apply And.intro | intro _)
  any_goals (first | (refine hR2 _ ?_; clear hR2) | (first | omega | (simp only [IntKind.wrap_i64] at *; omega) | (simp_all; done) | (simp_all; omega)))
  try simp (maxSteps := 1000000) [runs, gd, step1, need, evu, un, opnds, opv, ev, cst, cst1, cstL, getT, getH, putT, onL, nxt, argT, cellsOf, PV.one, thn, inBlk, jmp, fldP, ldP, ldC, live, Cells.len, Cells.get, Cells.w, sug, ldv, bin, ops2, sh2, binv, Tk.agg, stC, apC, rdS, apS, mvL, zp, argsP, idx, fillP, toInts, chunks, mkC, ixS, ixA, oidx, slP, sl0, mxF, bltn, frzA, frz, frzL, frz1, pur1, Cells.pur, PV.scal, scal1, runD, rdO, PV.ids, id1, zids, ety, Eff.on, cnd, minb, and1b, ifmax, ifmin, mxv, sugI, strv, w0, w1, w2, wm1, hl, he, List.take_succ_cons, List.take_zero, List.drop_succ_cons, List.drop_zero]
  simp [runs, gd, step1, need, evu, un, opnds, opv, ev, cst, cst1, cstL, getT, getH, putT, onL, nxt, argT, cellsOf, PV.one, thn, inBlk, jmp, fldP, ldP, ldC, live, Cells.len, Cells.get, Cells.w, sug, ldv, bin, ops2, sh2, binv, Tk.agg, stC, apC, rdS, apS, mvL, zp, argsP, idx, fillP, toInts, chunks, mkC, ixS, ixA, oidx, slP, sl0, mxF, bltn, frzA, frz, frzL, frz1, pur1, Cells.pur, PV.scal, scal1, runD, rdO, PV.ids, id1, zids, ety, Eff.on, cnd, minb, and1b, ifmax, ifmin, mxv, sugI, strv, w0, w1, w2, wm1, fnPostH, PV.inL, inL1, Blk.inL, Cells.inL, put_at, Try.results53, resP, tupOf]

theorem info_Put_ok (bs : List Int) (rate : Int) (s sh m : Int) (g : List Int) (hx : g.length ≤ 140737488355328) (hs0 : (0 ≤ s ∧ s ≤ 255) ∧ 0 ≤ sh ∧ sh ≤ 255) (hb : bs.length ≤ 1000000) : PCall Try.prog 30 [.ro (.ints .u8 bs), .int .i64 rate, .agg [.int .u8 s, .int .u8 sh, .int .i64 m, .ro (.ints .i64 g)]] (.tup [.ro (.ints .u8 (if chI rate s sh m g = 0 then bs ++ infB s sh m g else [])), .int .i64 (chI rate s sh m g)]) := by
  have hws : IntKind.i64.wrap s = s := w64 (by omega)
  have hwh : IntKind.i64.wrap sh = sh := w64 (by omega)
  refine pcall_body ty_ok Try.func30 rfl (by rfl) (by simp) ?_
  rw [Try.ntmps30]
  refine swp_seq fun K1 hK1 => ?_
  refine swp_region ty_ok ?_
  try simp (maxSteps := 1000000) [runs, gd, step1, need, evu, un, opnds, opv, ev, cst, cst1, cstL, getT, getH, putT, onL, nxt, argT, cellsOf, PV.one, thn, inBlk, jmp, fldP, ldP, ldC, live, Cells.len, Cells.get, Cells.w, sug, ldv, bin, ops2, sh2, binv, Tk.agg, stC, apC, rdS, apS, mvL, zp, argsP, idx, fillP, toInts, chunks, mkC, ixS, ixA, oidx, slP, sl0, mxF, bltn, frzA, frz, frzL, frz1, pur1, Cells.pur, PV.scal, scal1, runD, rdO, PV.ids, id1, zids, ety, Eff.on, cnd, minb, and1b, ifmax, ifmin, mxv, sugI, strv, w0, w1, w2, wm1, bitsOf_len, hws, hwh]
  repeat' (first | apply And.intro | intro _)
  any_goals (first | (refine hK1 _ ?_; clear hK1) | (first | omega | (simp only [IntKind.wrap_i64] at *; omega) | (simp_all; done) | (simp_all; omega)))
  refine swp_seq fun K2 hK2 => ?_
  refine swp_seq fun K3 hK3 => ?_
  refine swp_region ty_ok ?_
  refine runs_cut 2 fun R4 hR4 => ?_
  try simp (maxSteps := 1000000) [runs, gd, step1, need, evu, un, opnds, opv, ev, cst, cst1, cstL, getT, getH, putT, onL, nxt, argT, cellsOf, PV.one, thn, inBlk, jmp, fldP, ldP, ldC, live, Cells.len, Cells.get, Cells.w, sug, ldv, bin, ops2, sh2, binv, Tk.agg, stC, apC, rdS, apS, mvL, zp, argsP, idx, fillP, toInts, chunks, mkC, ixS, ixA, oidx, slP, sl0, mxF, bltn, frzA, frz, frzL, frz1, pur1, Cells.pur, PV.scal, scal1, runD, rdO, PV.ids, id1, zids, ety, Eff.on, cnd, minb, and1b, ifmax, ifmin, mxv, sugI, strv, w0, w1, w2, wm1, bitsOf_len, hws, hwh, List.take_succ_cons, List.take_zero, List.drop_succ_cons, List.drop_zero]
  repeat' (first | apply And.intro | intro _)
  any_goals (first | (refine hR4 _ ?_; clear hR4) | (first | omega | (simp only [IntKind.wrap_i64] at *; omega) | (simp_all; done) | (simp_all; omega)))
  refine runs_cut 1 fun R5 hR5 => ?_
  try simp (maxSteps := 1000000) [runs, gd, step1, need, evu, un, opnds, opv, ev, cst, cst1, cstL, getT, getH, putT, onL, nxt, argT, cellsOf, PV.one, thn, inBlk, jmp, fldP, ldP, ldC, live, Cells.len, Cells.get, Cells.w, sug, ldv, bin, ops2, sh2, binv, Tk.agg, stC, apC, rdS, apS, mvL, zp, argsP, idx, fillP, toInts, chunks, mkC, ixS, ixA, oidx, slP, sl0, mxF, bltn, frzA, frz, frzL, frz1, pur1, Cells.pur, PV.scal, scal1, runD, rdO, PV.ids, id1, zids, ety, Eff.on, cnd, minb, and1b, ifmax, ifmin, mxv, sugI, strv, w0, w1, w2, wm1, bitsOf_len, hws, hwh, List.take_succ_cons, List.take_zero, List.drop_succ_cons, List.drop_zero]
  refine .inl ⟨_, info_Check_ok _ _ _ _ _ (by (first | omega | (simp only [IntKind.wrap_i64] at *; omega) | (simp_all; done) | (simp_all; omega))), ?_⟩
  try simp (maxSteps := 1000000) [runs, gd, step1, need, evu, un, opnds, opv, ev, cst, cst1, cstL, getT, getH, putT, onL, nxt, argT, cellsOf, PV.one, thn, inBlk, jmp, fldP, ldP, ldC, live, Cells.len, Cells.get, Cells.w, sug, ldv, bin, ops2, sh2, binv, Tk.agg, stC, apC, rdS, apS, mvL, zp, argsP, idx, fillP, toInts, chunks, mkC, ixS, ixA, oidx, slP, sl0, mxF, bltn, frzA, frz, frzL, frz1, pur1, Cells.pur, PV.scal, scal1, runD, rdO, PV.ids, id1, zids, ety, Eff.on, cnd, minb, and1b, ifmax, ifmin, mxv, sugI, strv, w0, w1, w2, wm1, bitsOf_len, hws, hwh]
  repeat' (first | apply And.intro | intro _)
  any_goals (first | (refine hR5 _ ?_; clear hR5) | (first | omega | (simp only [IntKind.wrap_i64] at *; omega) | (simp_all; done) | (simp_all; omega)))
  try simp (maxSteps := 1000000) [runs, gd, step1, need, evu, un, opnds, opv, ev, cst, cst1, cstL, getT, getH, putT, onL, nxt, argT, cellsOf, PV.one, thn, inBlk, jmp, fldP, ldP, ldC, live, Cells.len, Cells.get, Cells.w, sug, ldv, bin, ops2, sh2, binv, Tk.agg, stC, apC, rdS, apS, mvL, zp, argsP, idx, fillP, toInts, chunks, mkC, ixS, ixA, oidx, slP, sl0, mxF, bltn, frzA, frz, frzL, frz1, pur1, Cells.pur, PV.scal, scal1, runD, rdO, PV.ids, id1, zids, ety, Eff.on, cnd, minb, and1b, ifmax, ifmin, mxv, sugI, strv, w0, w1, w2, wm1, bitsOf_len, hws, hwh, List.take_succ_cons, List.take_zero, List.drop_succ_cons, List.drop_zero]
  repeat' (first | apply And.intro | intro _)
  any_goals (first | (refine hK3 _ ?_; clear hK3) | (first | omega | (simp only [IntKind.wrap_i64] at *; omega) | (simp_all; done) | (simp_all; omega)))
  refine swp_seq fun K6 hK6 => ?_
  refine swp_region ty_ok ?_
  try simp (maxSteps := 1000000) [runs, gd, step1, need, evu, un, opnds, opv, ev, cst, cst1, cstL, getT, getH, putT, onL, nxt, argT, cellsOf, PV.one, thn, inBlk, jmp, fldP, ldP, ldC, live, Cells.len, Cells.get, Cells.w, sug, ldv, bin, ops2, sh2, binv, Tk.agg, stC, apC, rdS, apS, mvL, zp, argsP, idx, fillP, toInts, chunks, mkC, ixS, ixA, oidx, slP, sl0, mxF, bltn, frzA, frz, frzL, frz1, pur1, Cells.pur, PV.scal, scal1, runD, rdO, PV.ids, id1, zids, ety, Eff.on, cnd, minb, and1b, ifmax, ifmin, mxv, sugI, strv, w0, w1, w2, wm1, bitsOf_len, hws, hwh]
  repeat' (first | apply And.intro | intro _)
  any_goals (first | (refine hK6 _ ?_; clear hK6) | (first | omega | (simp only [IntKind.wrap_i64] at *; omega) | (simp_all; done) | (simp_all; omega)))
  refine swp_if fun C7 hC7 => ?_
  try simp (maxSteps := 1000000) [runs, gd, step1, need, evu, un, opnds, opv, ev, cst, cst1, cstL, getT, getH, putT, onL, nxt, argT, cellsOf, PV.one, thn, inBlk, jmp, fldP, ldP, ldC, live, Cells.len, Cells.get, Cells.w, sug, ldv, bin, ops2, sh2, binv, Tk.agg, stC, apC, rdS, apS, mvL, zp, argsP, idx, fillP, toInts, chunks, mkC, ixS, ixA, oidx, slP, sl0, mxF, bltn, frzA, frz, frzL, frz1, pur1, Cells.pur, PV.scal, scal1, runD, rdO, PV.ids, id1, zids, ety, Eff.on, cnd, minb, and1b, ifmax, ifmin, mxv, sugI, strv, w0, w1, w2, wm1, bitsOf_len, hws, hwh]
  refine hC7 _ (fun hc7 => ?_) (fun hc7 => ?_)
  · clear hC7
    try simp at hc7
    refine swp_seq fun K8 hK8 => ?_
    refine swp_region ty_ok ?_
    try simp (maxSteps := 1000000) [runs, gd, step1, need, evu, un, opnds, opv, ev, cst, cst1, cstL, getT, getH, putT, onL, nxt, argT, cellsOf, PV.one, thn, inBlk, jmp, fldP, ldP, ldC, live, Cells.len, Cells.get, Cells.w, sug, ldv, bin, ops2, sh2, binv, Tk.agg, stC, apC, rdS, apS, mvL, zp, argsP, idx, fillP, toInts, chunks, mkC, ixS, ixA, oidx, slP, sl0, mxF, bltn, frzA, frz, frzL, frz1, pur1, Cells.pur, PV.scal, scal1, runD, rdO, PV.ids, id1, zids, ety, Eff.on, cnd, minb, and1b, ifmax, ifmin, mxv, sugI, strv, w0, w1, w2, wm1, bitsOf_len, hws, hwh]
    repeat' (first | apply And.intro | intro _)
    any_goals (first | (refine hK8 _ ?_; clear hK8) | (first | omega | (simp only [IntKind.wrap_i64] at *; omega) | (simp_all; done) | (simp_all; omega)))
    refine swp_ret ?_
    simp [runs, gd, step1, need, evu, un, opnds, opv, ev, cst, cst1, cstL, getT, getH, putT, onL, nxt, argT, cellsOf, PV.one, thn, inBlk, jmp, fldP, ldP, ldC, live, Cells.len, Cells.get, Cells.w, sug, ldv, bin, ops2, sh2, binv, Tk.agg, stC, apC, rdS, apS, mvL, zp, argsP, idx, fillP, toInts, chunks, mkC, ixS, ixA, oidx, slP, sl0, mxF, bltn, frzA, frz, frzL, frz1, pur1, Cells.pur, PV.scal, scal1, runD, rdO, PV.ids, id1, zids, ety, Eff.on, cnd, minb, and1b, ifmax, ifmin, mxv, sugI, strv, w0, w1, w2, wm1, fnPost, Try.results30, resP, tupOf]
    exact fun h => absurd h (by assumption)
  · clear hC7
    try simp at hc7
    refine swp_skip ?_
    simp only [thn, inBlk]
    refine hK2 _ ?_; clear hK2
    refine swp_seq fun K9 hK9 => ?_
    refine swp_region ty_ok ?_
    try simp (maxSteps := 1000000) [runs, gd, step1, need, evu, un, opnds, opv, ev, cst, cst1, cstL, getT, getH, putT, onL, nxt, argT, cellsOf, PV.one, thn, inBlk, jmp, fldP, ldP, ldC, live, Cells.len, Cells.get, Cells.w, sug, ldv, bin, ops2, sh2, binv, Tk.agg, stC, apC, rdS, apS, mvL, zp, argsP, idx, fillP, toInts, chunks, mkC, ixS, ixA, oidx, slP, sl0, mxF, bltn, frzA, frz, frzL, frz1, pur1, Cells.pur, PV.scal, scal1, runD, rdO, PV.ids, id1, zids, ety, Eff.on, cnd, minb, and1b, ifmax, ifmin, mxv, sugI, strv, w0, w1, w2, wm1, bitsOf_len, hws, hwh]
    repeat' (first | apply And.intro | intro _)
    any_goals (first | (refine hK9 _ ?_; clear hK9) | (first | omega | (simp only [IntKind.wrap_i64] at *; omega) | (simp_all; done) | (simp_all; omega)))
    refine swp_seq fun K10 hK10 => ?_
    obtain ⟨hr, hs3, hsh, hm0, hmM, hok, hmay, hm11⟩ := chI_zero (by assumption : chI rate s sh m g = 0)
    have hM1 := MB_bd rate (decide (s = 2))
    refine swp_region ty_ok ?_
    refine runs_cut 1 fun R11 hR11 => ?_
    try simp (maxSteps := 1000000) [runs, gd, step1, need, evu, un, opnds, opv, ev, cst, cst1, cstL, getT, getH, putT, onL, nxt, argT, cellsOf, PV.one, thn, inBlk, jmp, fldP, ldP, ldC, live, Cells.len, Cells.get, Cells.w, sug, ldv, bin, ops2, sh2, binv, Tk.agg, stC, apC, rdS, apS, mvL, zp, argsP, idx, fillP, toInts, chunks, mkC, ixS, ixA, oidx, slP, sl0, mxF, bltn, frzA, frz, frzL, frz1, pur1, Cells.pur, PV.scal, scal1, runD, rdO, PV.ids, id1, zids, ety, Eff.on, cnd, minb, and1b, ifmax, ifmin, mxv, sugI, strv, w0, w1, w2, wm1, bitsOf_len, hws, hwh, List.take_succ_cons, List.take_zero, List.drop_succ_cons, List.drop_zero]
    repeat' (first | apply And.intro | intro _)
    any_goals (first | (refine hR11 _ ?_; clear hR11) | (first | omega | (simp only [IntKind.wrap_i64] at *; omega) | (simp_all; done) | (simp_all; omega)))
    try simp (maxSteps := 1000000) [runs, gd, step1, need, evu, un, opnds, opv, ev, cst, cst1, cstL, getT, getH, putT, onL, nxt, argT, cellsOf, PV.one, thn, inBlk, jmp, fldP, ldP, ldC, live, Cells.len, Cells.get, Cells.w, sug, ldv, bin, ops2, sh2, binv, Tk.agg, stC, apC, rdS, apS, mvL, zp, argsP, idx, fillP, toInts, chunks, mkC, ixS, ixA, oidx, slP, sl0, mxF, bltn, frzA, frz, frzL, frz1, pur1, Cells.pur, PV.scal, scal1, runD, rdO, PV.ids, id1, zids, ety, Eff.on, cnd, minb, and1b, ifmax, ifmin, mxv, sugI, strv, w0, w1, w2, wm1, bitsOf_len, hws, hwh, List.take_succ_cons, List.take_zero, List.drop_succ_cons, List.drop_zero]
    refine .inr (hcl_mk (info_put1 2 bs 0 1 (by decide) (by omega) (by omega)) (by simp [PV.ids, id1, getH, Blk.inL, Cells.inL, inL1]) (by simp [PV.inL, inL1]) (by simp) ?_)
    try simp (maxSteps := 1000000) [runs, gd, step1, need, evu, un, opnds, opv, ev, cst, cst1, cstL, getT, getH, putT, onL, nxt, argT, cellsOf, PV.one, thn, inBlk, jmp, fldP, ldP, ldC, live, Cells.len, Cells.get, Cells.w, sug, ldv, bin, ops2, sh2, binv, Tk.agg, stC, apC, rdS, apS, mvL, zp, argsP, idx, fillP, toInts, chunks, mkC, ixS, ixA, oidx, slP, sl0, mxF, bltn, frzA, frz, frzL, frz1, pur1, Cells.pur, PV.scal, scal1, runD, rdO, PV.ids, id1, zids, ety, Eff.on, cnd, minb, and1b, ifmax, ifmin, mxv, sugI, strv, w0, w1, w2, wm1, bitsOf_len, hws, hwh]
    repeat' (first | apply And.intro | intro _)
    any_goals (first | (refine hK10 _ ?_; clear hK10) | (first | omega | (simp only [IntKind.wrap_i64] at *; omega) | (simp_all; done) | (simp_all; omega)))
    refine swp_seq fun K12 hK12 => ?_
    refine swp_region ty_ok ?_
    refine runs_cut 4 fun R13 hR13 => ?_
    try simp (maxSteps := 1000000) [runs, gd, step1, need, evu, un, opnds, opv, ev, cst, cst1, cstL, getT, getH, putT, onL, nxt, argT, cellsOf, PV.one, thn, inBlk, jmp, fldP, ldP, ldC, live, Cells.len, Cells.get, Cells.w, sug, ldv, bin, ops2, sh2, binv, Tk.agg, stC, apC, rdS, apS, mvL, zp, argsP, idx, fillP, toInts, chunks, mkC, ixS, ixA, oidx, slP, sl0, mxF, bltn, frzA, frz, frzL, frz1, pur1, Cells.pur, PV.scal, scal1, runD, rdO, PV.ids, id1, zids, ety, Eff.on, cnd, minb, and1b, ifmax, ifmin, mxv, sugI, strv, w0, w1, w2, wm1, bitsOf_len, hws, hwh, List.take_succ_cons, List.take_zero, List.drop_succ_cons, List.drop_zero]
    repeat' (first | apply And.intro | intro _)
    any_goals (first | (refine hR13 _ ?_; clear hR13) | (first | omega | (simp only [IntKind.wrap_i64] at *; omega) | (simp_all; done) | (simp_all; omega)))
    try simp (maxSteps := 1000000) [runs, gd, step1, need, evu, un, opnds, opv, ev, cst, cst1, cstL, getT, getH, putT, onL, nxt, argT, cellsOf, PV.one, thn, inBlk, jmp, fldP, ldP, ldC, live, Cells.len, Cells.get, Cells.w, sug, ldv, bin, ops2, sh2, binv, Tk.agg, stC, apC, rdS, apS, mvL, zp, argsP, idx, fillP, toInts, chunks, mkC, ixS, ixA, oidx, slP, sl0, mxF, bltn, frzA, frz, frzL, frz1, pur1, Cells.pur, PV.scal, scal1, runD, rdO, PV.ids, id1, zids, ety, Eff.on, cnd, minb, and1b, ifmax, ifmin, mxv, sugI, strv, w0, w1, w2, wm1, bitsOf_len, hws, hwh, List.take_succ_cons, List.take_zero, List.drop_succ_cons, List.drop_zero]
    refine .inr (hcl_mk (info_put1 2 (bs ++ bitsOf 0 1) s 2 (okp (s := 2) (by omega) (by omega) (by omega)) (by simp [bitsOf_len]; omega) (by omega)) (by simp [PV.ids, id1, getH, Blk.inL, Cells.inL, inL1]) (by simp [PV.inL, inL1]) (by simp) ?_)
    try simp (maxSteps := 1000000) [runs, gd, step1, need, evu, un, opnds, opv, ev, cst, cst1, cstL, getT, getH, putT, onL, nxt, argT, cellsOf, PV.one, thn, inBlk, jmp, fldP, ldP, ldC, live, Cells.len, Cells.get, Cells.w, sug, ldv, bin, ops2, sh2, binv, Tk.agg, stC, apC, rdS, apS, mvL, zp, argsP, idx, fillP, toInts, chunks, mkC, ixS, ixA, oidx, slP, sl0, mxF, bltn, frzA, frz, frzL, frz1, pur1, Cells.pur, PV.scal, scal1, runD, rdO, PV.ids, id1, zids, ety, Eff.on, cnd, minb, and1b, ifmax, ifmin, mxv, sugI, strv, w0, w1, w2, wm1, bitsOf_len, hws, hwh]
    repeat' (first | apply And.intro | intro _)
    any_goals (first | (refine hK12 _ ?_; clear hK12) | (first | omega | (simp only [IntKind.wrap_i64] at *; omega) | (simp_all; done) | (simp_all; omega)))
    refine swp_seq fun K14 hK14 => ?_
    refine swp_region ty_ok ?_
    refine runs_cut 4 fun R15 hR15 => ?_
    try simp (maxSteps := 1000000) [runs, gd, step1, need, evu, un, opnds, opv, ev, cst, cst1, cstL, getT, getH, putT, onL, nxt, argT, cellsOf, PV.one, thn, inBlk, jmp, fldP, ldP, ldC, live, Cells.len, Cells.get, Cells.w, sug, ldv, bin, ops2, sh2, binv, Tk.agg, stC, apC, rdS, apS, mvL, zp, argsP, idx, fillP, toInts, chunks, mkC, ixS, ixA, oidx, slP, sl0, mxF, bltn, frzA, frz, frzL, frz1, pur1, Cells.pur, PV.scal, scal1, runD, rdO, PV.ids, id1, zids, ety, Eff.on, cnd, minb, and1b, ifmax, ifmin, mxv, sugI, strv, w0, w1, w2, wm1, bitsOf_len, hws, hwh, List.take_succ_cons, List.take_zero, List.drop_succ_cons, List.drop_zero]
    repeat' (first | apply And.intro | intro _)
    any_goals (first | (refine hR15 _ ?_; clear hR15) | (first | omega | (simp only [IntKind.wrap_i64] at *; omega) | (simp_all; done) | (simp_all; omega)))
    try simp (maxSteps := 1000000) [runs, gd, step1, need, evu, un, opnds, opv, ev, cst, cst1, cstL, getT, getH, putT, onL, nxt, argT, cellsOf, PV.one, thn, inBlk, jmp, fldP, ldP, ldC, live, Cells.len, Cells.get, Cells.w, sug, ldv, bin, ops2, sh2, binv, Tk.agg, stC, apC, rdS, apS, mvL, zp, argsP, idx, fillP, toInts, chunks, mkC, ixS, ixA, oidx, slP, sl0, mxF, bltn, frzA, frz, frzL, frz1, pur1, Cells.pur, PV.scal, scal1, runD, rdO, PV.ids, id1, zids, ety, Eff.on, cnd, minb, and1b, ifmax, ifmin, mxv, sugI, strv, w0, w1, w2, wm1, bitsOf_len, hws, hwh, List.take_succ_cons, List.take_zero, List.drop_succ_cons, List.drop_zero]
    refine .inr (hcl_mk (info_put1 2 (bs ++ (bitsOf 0 1 ++ bitsOf s.toNat 2)) sh 1 (okp (s := 1) (by omega) (by omega) (by omega)) (by simp [bitsOf_len]; omega) (by omega)) (by simp [PV.ids, id1, getH, Blk.inL, Cells.inL, inL1]) (by simp [PV.inL, inL1]) (by simp) ?_)
    try simp (maxSteps := 1000000) [runs, gd, step1, need, evu, un, opnds, opv, ev, cst, cst1, cstL, getT, getH, putT, onL, nxt, argT, cellsOf, PV.one, thn, inBlk, jmp, fldP, ldP, ldC, live, Cells.len, Cells.get, Cells.w, sug, ldv, bin, ops2, sh2, binv, Tk.agg, stC, apC, rdS, apS, mvL, zp, argsP, idx, fillP, toInts, chunks, mkC, ixS, ixA, oidx, slP, sl0, mxF, bltn, frzA, frz, frzL, frz1, pur1, Cells.pur, PV.scal, scal1, runD, rdO, PV.ids, id1, zids, ety, Eff.on, cnd, minb, and1b, ifmax, ifmin, mxv, sugI, strv, w0, w1, w2, wm1, bitsOf_len, hws, hwh]
    repeat' (first | apply And.intro | intro _)
    any_goals (first | (refine hK14 _ ?_; clear hK14) | (first | omega | (simp only [IntKind.wrap_i64] at *; omega) | (simp_all; done) | (simp_all; omega)))
    refine swp_seq fun K16 hK16 => ?_
    refine swp_seq fun K17 hK17 => ?_
    refine swp_region ty_ok ?_
    try simp (maxSteps := 1000000) [runs, gd, step1, need, evu, un, opnds, opv, ev, cst, cst1, cstL, getT, getH, putT, onL, nxt, argT, cellsOf, PV.one, thn, inBlk, jmp, fldP, ldP, ldC, live, Cells.len, Cells.get, Cells.w, sug, ldv, bin, ops2, sh2, binv, Tk.agg, stC, apC, rdS, apS, mvL, zp, argsP, idx, fillP, toInts, chunks, mkC, ixS, ixA, oidx, slP, sl0, mxF, bltn, frzA, frz, frzL, frz1, pur1, Cells.pur, PV.scal, scal1, runD, rdO, PV.ids, id1, zids, ety, Eff.on, cnd, minb, and1b, ifmax, ifmin, mxv, sugI, strv, w0, w1, w2, wm1, bitsOf_len, hws, hwh]
    repeat' (first | apply And.intro | intro _)
    any_goals (first | (refine hK17 _ ?_; clear hK17) | (first | omega | (simp only [IntKind.wrap_i64] at *; omega) | (simp_all; done) | (simp_all; omega)))
    refine swp_if fun C18 hC18 => ?_
    try simp (maxSteps := 1000000) [runs, gd, step1, need, evu, un, opnds, opv, ev, cst, cst1, cstL, getT, getH, putT, onL, nxt, argT, cellsOf, PV.one, thn, inBlk, jmp, fldP, ldP, ldC, live, Cells.len, Cells.get, Cells.w, sug, ldv, bin, ops2, sh2, binv, Tk.agg, stC, apC, rdS, apS, mvL, zp, argsP, idx, fillP, toInts, chunks, mkC, ixS, ixA, oidx, slP, sl0, mxF, bltn, frzA, frz, frzL, frz1, pur1, Cells.pur, PV.scal, scal1, runD, rdO, PV.ids, id1, zids, ety, Eff.on, cnd, minb, and1b, ifmax, ifmin, mxv, sugI, strv, w0, w1, w2, wm1, bitsOf_len, hws, hwh]
    refine hC18 _ (fun hc18 => ?_) (fun hc18 => ?_)
    · clear hC18
      try simp at hc18
      refine swp_seq fun K19 hK19 => ?_
      refine swp_region ty_ok ?_
      refine runs_cut 3 fun R20 hR20 => ?_
      try simp (maxSteps := 1000000) [runs, gd, step1, need, evu, un, opnds, opv, ev, cst, cst1, cstL, getT, getH, putT, onL, nxt, argT, cellsOf, PV.one, thn, inBlk, jmp, fldP, ldP, ldC, live, Cells.len, Cells.get, Cells.w, sug, ldv, bin, ops2, sh2, binv, Tk.agg, stC, apC, rdS, apS, mvL, zp, argsP, idx, fillP, toInts, chunks, mkC, ixS, ixA, oidx, slP, sl0, mxF, bltn, frzA, frz, frzL, frz1, pur1, Cells.pur, PV.scal, scal1, runD, rdO, PV.ids, id1, zids, ety, Eff.on, cnd, minb, and1b, ifmax, ifmin, mxv, sugI, strv, w0, w1, w2, wm1, bitsOf_len, hws, hwh, List.take_succ_cons, List.take_zero, List.drop_succ_cons, List.drop_zero]
      repeat' (first | apply And.intro | intro _)
      any_goals (first | (refine hR20 _ ?_; clear hR20) | (first | omega | (simp only [IntKind.wrap_i64] at *; omega) | (simp_all; done) | (simp_all; omega)))
      try simp (maxSteps := 1000000) [runs, gd, step1, need, evu, un, opnds, opv, ev, cst, cst1, cstL, getT, getH, putT, onL, nxt, argT, cellsOf, PV.one, thn, inBlk, jmp, fldP, ldP, ldC, live, Cells.len, Cells.get, Cells.w, sug, ldv, bin, ops2, sh2, binv, Tk.agg, stC, apC, rdS, apS, mvL, zp, argsP, idx, fillP, toInts, chunks, mkC, ixS, ixA, oidx, slP, sl0, mxF, bltn, frzA, frz, frzL, frz1, pur1, Cells.pur, PV.scal, scal1, runD, rdO, PV.ids, id1, zids, ety, Eff.on, cnd, minb, and1b, ifmax, ifmin, mxv, sugI, strv, w0, w1, w2, wm1, bitsOf_len, hws, hwh, List.take_succ_cons, List.take_zero, List.drop_succ_cons, List.drop_zero]
      refine .inr (hcl_mk (info_put1 2 (bs ++ (bitsOf 0 1 ++ (bitsOf s.toNat 2 ++ bitsOf sh.toNat 1))) m 6 (okp (s := 6) (by omega) (by omega) (by omega)) (by simp [bitsOf_len]; omega) (by omega)) (by simp [PV.ids, id1, getH, Blk.inL, Cells.inL, inL1]) (by simp [PV.inL, inL1]) (by simp) ?_)
      try simp (maxSteps := 1000000) [runs, gd, step1, need, evu, un, opnds, opv, ev, cst, cst1, cstL, getT, getH, putT, onL, nxt, argT, cellsOf, PV.one, thn, inBlk, jmp, fldP, ldP, ldC, live, Cells.len, Cells.get, Cells.w, sug, ldv, bin, ops2, sh2, binv, Tk.agg, stC, apC, rdS, apS, mvL, zp, argsP, idx, fillP, toInts, chunks, mkC, ixS, ixA, oidx, slP, sl0, mxF, bltn, frzA, frz, frzL, frz1, pur1, Cells.pur, PV.scal, scal1, runD, rdO, PV.ids, id1, zids, ety, Eff.on, cnd, minb, and1b, ifmax, ifmin, mxv, sugI, strv, w0, w1, w2, wm1, bitsOf_len, hws, hwh]
      repeat' (first | apply And.intro | intro _)
      any_goals (first | (refine hK19 _ ?_; clear hK19) | (first | omega | (simp only [IntKind.wrap_i64] at *; omega) | (simp_all; done) | (simp_all; omega)))
      refine swp_seq fun K21 hK21 => ?_
      refine swp_region ty_ok ?_
      refine runs_cut 1 fun R22 hR22 => ?_
      try simp (maxSteps := 1000000) [runs, gd, step1, need, evu, un, opnds, opv, ev, cst, cst1, cstL, getT, getH, putT, onL, nxt, argT, cellsOf, PV.one, thn, inBlk, jmp, fldP, ldP, ldC, live, Cells.len, Cells.get, Cells.w, sug, ldv, bin, ops2, sh2, binv, Tk.agg, stC, apC, rdS, apS, mvL, zp, argsP, idx, fillP, toInts, chunks, mkC, ixS, ixA, oidx, slP, sl0, mxF, bltn, frzA, frz, frzL, frz1, pur1, Cells.pur, PV.scal, scal1, runD, rdO, PV.ids, id1, zids, ety, Eff.on, cnd, minb, and1b, ifmax, ifmin, mxv, sugI, strv, w0, w1, w2, wm1, bitsOf_len, hws, hwh, List.take_succ_cons, List.take_zero, List.drop_succ_cons, List.drop_zero]
      repeat' (first | apply And.intro | intro _)
      any_goals (first | (refine hR22 _ ?_; clear hR22) | (first | omega | (simp only [IntKind.wrap_i64] at *; omega) | (simp_all; done) | (simp_all; omega)))
      try simp (maxSteps := 1000000) [runs, gd, step1, need, evu, un, opnds, opv, ev, cst, cst1, cstL, getT, getH, putT, onL, nxt, argT, cellsOf, PV.one, thn, inBlk, jmp, fldP, ldP, ldC, live, Cells.len, Cells.get, Cells.w, sug, ldv, bin, ops2, sh2, binv, Tk.agg, stC, apC, rdS, apS, mvL, zp, argsP, idx, fillP, toInts, chunks, mkC, ixS, ixA, oidx, slP, sl0, mxF, bltn, frzA, frz, frzL, frz1, pur1, Cells.pur, PV.scal, scal1, runD, rdO, PV.ids, id1, zids, ety, Eff.on, cnd, minb, and1b, ifmax, ifmin, mxv, sugI, strv, w0, w1, w2, wm1, bitsOf_len, hws, hwh, List.take_succ_cons, List.take_zero, List.drop_succ_cons, List.drop_zero]
      refine .inr (hcl_mk (info_put1 2 (bs ++ (bitsOf 0 1 ++ (bitsOf s.toNat 2 ++ (bitsOf sh.toNat 1 ++ bitsOf m.toNat 6)))) 0 1 (by decide) (by simp [bitsOf_len]; omega) (by omega)) (by simp [PV.ids, id1, getH, Blk.inL, Cells.inL, inL1]) (by simp [PV.inL, inL1]) (by simp) ?_)
      try simp (maxSteps := 1000000) [runs, gd, step1, need, evu, un, opnds, opv, ev, cst, cst1, cstL, getT, getH, putT, onL, nxt, argT, cellsOf, PV.one, thn, inBlk, jmp, fldP, ldP, ldC, live, Cells.len, Cells.get, Cells.w, sug, ldv, bin, ops2, sh2, binv, Tk.agg, stC, apC, rdS, apS, mvL, zp, argsP, idx, fillP, toInts, chunks, mkC, ixS, ixA, oidx, slP, sl0, mxF, bltn, frzA, frz, frzL, frz1, pur1, Cells.pur, PV.scal, scal1, runD, rdO, PV.ids, id1, zids, ety, Eff.on, cnd, minb, and1b, ifmax, ifmin, mxv, sugI, strv, w0, w1, w2, wm1, bitsOf_len, hws, hwh]
      repeat' (first | apply And.intro | intro _)
      any_goals (first | (refine hK21 _ ?_; clear hK21) | (first | omega | (simp only [IntKind.wrap_i64] at *; omega) | (simp_all; done) | (simp_all; omega)))
      refine swp_seq fun K23 hK23 => ?_
      refine swp_region ty_ok ?_
      try simp (maxSteps := 1000000) [runs, gd, step1, need, evu, un, opnds, opv, ev, cst, cst1, cstL, getT, getH, putT, onL, nxt, argT, cellsOf, PV.one, thn, inBlk, jmp, fldP, ldP, ldC, live, Cells.len, Cells.get, Cells.w, sug, ldv, bin, ops2, sh2, binv, Tk.agg, stC, apC, rdS, apS, mvL, zp, argsP, idx, fillP, toInts, chunks, mkC, ixS, ixA, oidx, slP, sl0, mxF, bltn, frzA, frz, frzL, frz1, pur1, Cells.pur, PV.scal, scal1, runD, rdO, PV.ids, id1, zids, ety, Eff.on, cnd, minb, and1b, ifmax, ifmin, mxv, sugI, strv, w0, w1, w2, wm1, bitsOf_len, hws, hwh]
      repeat' (first | apply And.intro | intro _)
      any_goals (first | (refine hK23 _ ?_; clear hK23) | (first | omega | (simp only [IntKind.wrap_i64] at *; omega) | (simp_all; done) | (simp_all; omega)))
      refine swp_ret ?_
      simp [runs, gd, step1, need, evu, un, opnds, opv, ev, cst, cst1, cstL, getT, getH, putT, onL, nxt, argT, cellsOf, PV.one, thn, inBlk, jmp, fldP, ldP, ldC, live, Cells.len, Cells.get, Cells.w, sug, ldv, bin, ops2, sh2, binv, Tk.agg, stC, apC, rdS, apS, mvL, zp, argsP, idx, fillP, toInts, chunks, mkC, ixS, ixA, oidx, slP, sl0, mxF, bltn, frzA, frz, frzL, frz1, pur1, Cells.pur, PV.scal, scal1, runD, rdO, PV.ids, id1, zids, ety, Eff.on, cnd, minb, and1b, ifmax, ifmin, mxv, sugI, strv, w0, w1, w2, wm1, fnPost, Try.results30, resP, tupOf]
      have hz := (by assumption : chI rate s sh m g = 0); rw [if_pos hz, infB, if_neg (by assumption)]; simp [hz]
    · clear hC18
      try simp at hc18
      refine swp_skip ?_
      simp only [thn, inBlk]
      refine hK16 _ ?_; clear hK16
      refine swp_seq fun K24 hK24 => ?_
      have hs2 : s = 2 := by assumption
      have hM2 := MB_short rate
      have hMs : MB rate (decide (s = 2)) ≤ 15 := by rw [hs2]; exact hM2
      refine swp_region ty_ok ?_
      refine runs_cut 3 fun R25 hR25 => ?_
      try simp (maxSteps := 1000000) [runs, gd, step1, need, evu, un, opnds, opv, ev, cst, cst1, cstL, getT, getH, putT, onL, nxt, argT, cellsOf, PV.one, thn, inBlk, jmp, fldP, ldP, ldC, live, Cells.len, Cells.get, Cells.w, sug, ldv, bin, ops2, sh2, binv, Tk.agg, stC, apC, rdS, apS, mvL, zp, argsP, idx, fillP, toInts, chunks, mkC, ixS, ixA, oidx, slP, sl0, mxF, bltn, frzA, frz, frzL, frz1, pur1, Cells.pur, PV.scal, scal1, runD, rdO, PV.ids, id1, zids, ety, Eff.on, cnd, minb, and1b, ifmax, ifmin, mxv, sugI, strv, w0, w1, w2, wm1, bitsOf_len, hws, hwh, List.take_succ_cons, List.take_zero, List.drop_succ_cons, List.drop_zero]
      repeat' (first | apply And.intro | intro _)
      any_goals (first | (refine hR25 _ ?_; clear hR25) | (first | omega | (simp only [IntKind.wrap_i64] at *; omega) | (simp_all; done) | (simp_all; omega)))
      try simp (maxSteps := 1000000) [runs, gd, step1, need, evu, un, opnds, opv, ev, cst, cst1, cstL, getT, getH, putT, onL, nxt, argT, cellsOf, PV.one, thn, inBlk, jmp, fldP, ldP, ldC, live, Cells.len, Cells.get, Cells.w, sug, ldv, bin, ops2, sh2, binv, Tk.agg, stC, apC, rdS, apS, mvL, zp, argsP, idx, fillP, toInts, chunks, mkC, ixS, ixA, oidx, slP, sl0, mxF, bltn, frzA, frz, frzL, frz1, pur1, Cells.pur, PV.scal, scal1, runD, rdO, PV.ids, id1, zids, ety, Eff.on, cnd, minb, and1b, ifmax, ifmin, mxv, sugI, strv, w0, w1, w2, wm1, bitsOf_len, hws, hwh, List.take_succ_cons, List.take_zero, List.drop_succ_cons, List.drop_zero]
      refine .inr (hcl_mk (info_put1 2 (bs ++ (bitsOf 0 1 ++ (bitsOf s.toNat 2 ++ bitsOf sh.toNat 1))) m 4 (okp (s := 4) (by omega) (by omega) (by omega)) (by simp [bitsOf_len]; omega) (by omega)) (by simp [PV.ids, id1, getH, Blk.inL, Cells.inL, inL1]) (by simp [PV.inL, inL1]) (by simp) ?_)
      try simp (maxSteps := 1000000) [runs, gd, step1, need, evu, un, opnds, opv, ev, cst, cst1, cstL, getT, getH, putT, onL, nxt, argT, cellsOf, PV.one, thn, inBlk, jmp, fldP, ldP, ldC, live, Cells.len, Cells.get, Cells.w, sug, ldv, bin, ops2, sh2, binv, Tk.agg, stC, apC, rdS, apS, mvL, zp, argsP, idx, fillP, toInts, chunks, mkC, ixS, ixA, oidx, slP, sl0, mxF, bltn, frzA, frz, frzL, frz1, pur1, Cells.pur, PV.scal, scal1, runD, rdO, PV.ids, id1, zids, ety, Eff.on, cnd, minb, and1b, ifmax, ifmin, mxv, sugI, strv, w0, w1, w2, wm1, bitsOf_len, hws, hwh]
      repeat' (first | apply And.intro | intro _)
      any_goals (first | (refine hK24 _ ?_; clear hK24) | (first | omega | (simp only [IntKind.wrap_i64] at *; omega) | (simp_all; done) | (simp_all; omega)))
      refine swp_seq fun K26 hK26 => ?_
      refine swp_seq fun K27 hK27 => ?_
      refine swp_region ty_ok ?_
      try simp (maxSteps := 1000000) [runs, gd, step1, need, evu, un, opnds, opv, ev, cst, cst1, cstL, getT, getH, putT, onL, nxt, argT, cellsOf, PV.one, thn, inBlk, jmp, fldP, ldP, ldC, live, Cells.len, Cells.get, Cells.w, sug, ldv, bin, ops2, sh2, binv, Tk.agg, stC, apC, rdS, apS, mvL, zp, argsP, idx, fillP, toInts, chunks, mkC, ixS, ixA, oidx, slP, sl0, mxF, bltn, frzA, frz, frzL, frz1, pur1, Cells.pur, PV.scal, scal1, runD, rdO, PV.ids, id1, zids, ety, Eff.on, cnd, minb, and1b, ifmax, ifmin, mxv, sugI, strv, w0, w1, w2, wm1, bitsOf_len, hws, hwh]
      repeat' (first | apply And.intro | intro _)
      any_goals (first | (refine hK27 _ ?_; clear hK27) | (first | omega | (simp only [IntKind.wrap_i64] at *; omega) | (simp_all; done) | (simp_all; omega)))
      refine swp_block ?_
      refine swp_loop 2 (fun m_ s_ => ∃ (w : Nat), (w < 8) ∧ s_ = ⟨[(3, .ptr 0 0 0 1), (5, .ptr 1 0 0 1), (9, .fn 53 [.ptr 0 0 0 1]), (10, .int .i64 ((w + 1 : Nat) : Int))], [(0, some ⟨.rows 1 [[.ro (.ints .u8 (bs ++ (bitsOf 0 1 ++ (bitsOf s.toNat 2 ++ (bitsOf sh.toNat 1 ++ (bitsOf m.toNat 4 ++ grpB g w))))))]], true, 44⟩), (1, some ⟨.rows 4 [[.int .u8 s, .int .u8 sh, .int .i64 m, .ro (.ints .i64 g)]], true, 24⟩)], 2⟩ ∧ m_ = 8 - w) _ ⟨[(3, .ptr 0 0 0 1), (5, .ptr 1 0 0 1), (9, .fn 53 [.ptr 0 0 0 1]), (10, .int .i64 ((0 + 1 : Nat) : Int))], [(0, some ⟨.rows 1 [[.ro (.ints .u8 (bs ++ (bitsOf 0 1 ++ (bitsOf s.toNat 2 ++ (bitsOf sh.toNat 1 ++ (bitsOf m.toNat 4 ++ grpB g 0))))))]], true, 44⟩), (1, some ⟨.rows 4 [[.int .u8 s, .int .u8 sh, .int .i64 m, .ro (.ints .i64 g)]], true, 24⟩)], 2⟩ ⟨by simp [getT, PV.lo, lo1], by simp [getH, Blk.lo, Cells.lo, lo1, grpB], rfl, by omega⟩ ⟨(0), by (first | omega | (simp only [IntKind.wrap_i64] at *; omega) | (simp_all; done) | (simp_all; omega)), rfl, rfl⟩ ?_
      rintro m_ s_ ⟨w, hL28_0, rfl, rfl⟩ KL28 hL28
      have hwi : winI s sh m g = 8 := by rw [winI, if_pos hm11, if_pos hs2]
      have hw0 : IntKind.i64.wrap (w : Int) = w := w64 (by omega)
      have hw2 : IntKind.i64.wrap ((w : Int) + 1 + 1) = w + 1 + 1 := w64 (by omega)
      have hg0 := (grp_ok (w := (w : Int)) hm11 (by omega)).2
      have hg1 : w < 7 → grpN s sh m g ((w : Int) + 1) = (grp g ((w : Int) + 1) : Nat) := fun h => (grp_ok hm11 (by omega)).2
      refine swp_seq fun K29 hK29 => ?_
      refine swp_seq fun K30 hK30 => ?_
      refine swp_region ty_ok ?_
      try simp (maxSteps := 1000000) [runs, gd, step1, need, evu, un, opnds, opv, ev, cst, cst1, cstL, getT, getH, putT, onL, nxt, argT, cellsOf, PV.one, thn, inBlk, jmp, fldP, ldP, ldC, live, Cells.len, Cells.get, Cells.w, sug, ldv, bin, ops2, sh2, binv, Tk.agg, stC, apC, rdS, apS, mvL, zp, argsP, idx, fillP, toInts, chunks, mkC, ixS, ixA, oidx, slP, sl0, mxF, bltn, frzA, frz, frzL, frz1, pur1, Cells.pur, PV.scal, scal1, runD, rdO, PV.ids, id1, zids, ety, Eff.on, cnd, minb, and1b, ifmax, ifmin, mxv, sugI, strv, w0, w1, w2, wm1, bitsOf_len, hws, hwh]
      repeat' (first | apply And.intro | intro _)
      any_goals (first | (refine hK30 _ ?_; clear hK30) | (first | omega | (simp only [IntKind.wrap_i64] at *; omega) | (simp_all; done) | (simp_all; omega)))
      refine swp_if fun C31 hC31 => ?_
      try simp (maxSteps := 1000000) [runs, gd, step1, need, evu, un, opnds, opv, ev, cst, cst1, cstL, getT, getH, putT, onL, nxt, argT, cellsOf, PV.one, thn, inBlk, jmp, fldP, ldP, ldC, live, Cells.len, Cells.get, Cells.w, sug, ldv, bin, ops2, sh2, binv, Tk.agg, stC, apC, rdS, apS, mvL, zp, argsP, idx, fillP, toInts, chunks, mkC, ixS, ixA, oidx, slP, sl0, mxF, bltn, frzA, frz, frzL, frz1, pur1, Cells.pur, PV.scal, scal1, runD, rdO, PV.ids, id1, zids, ety, Eff.on, cnd, minb, and1b, ifmax, ifmin, mxv, sugI, strv, w0, w1, w2, wm1, bitsOf_len, hws, hwh]
      refine hC31 _ (fun hc31 => ?_) (fun hc31 => ?_)
      · clear hC31
        try simp at hc31
        refine swp_skip ?_
        simp only [thn, inBlk]
        refine hK29 _ ?_; clear hK29
        refine swp_seq fun K32 hK32 => ?_
        refine swp_block ?_
        refine swp_seq fun K33 hK33 => ?_
        refine swp_region ty_ok ?_
        refine runs_cut 3 fun R34 hR34 => ?_
        try simp (maxSteps := 1000000) [runs, gd, step1, need, evu, un, opnds, opv, ev, cst, cst1, cstL, getT, getH, putT, onL, nxt, argT, cellsOf, PV.one, thn, inBlk, jmp, fldP, ldP, ldC, live, Cells.len, Cells.get, Cells.w, sug, ldv, bin, ops2, sh2, binv, Tk.agg, stC, apC, rdS, apS, mvL, zp, argsP, idx, fillP, toInts, chunks, mkC, ixS, ixA, oidx, slP, sl0, mxF, bltn, frzA, frz, frzL, frz1, pur1, Cells.pur, PV.scal, scal1, runD, rdO, PV.ids, id1, zids, ety, Eff.on, cnd, minb, and1b, ifmax, ifmin, mxv, sugI, strv, w0, w1, w2, wm1, bitsOf_len, hws, hwh, List.take_succ_cons, List.take_zero, List.drop_succ_cons, List.drop_zero]
        repeat' (first | apply And.intro | intro _)
        any_goals (first | (refine hR34 _ ?_; clear hR34) | (first | omega | (simp only [IntKind.wrap_i64] at *; omega) | (simp_all; done) | (simp_all; omega)))
        refine runs_cut 1 fun R35 hR35 => ?_
        try simp (maxSteps := 1000000) [runs, gd, step1, need, evu, un, opnds, opv, ev, cst, cst1, cstL, getT, getH, putT, onL, nxt, argT, cellsOf, PV.one, thn, inBlk, jmp, fldP, ldP, ldC, live, Cells.len, Cells.get, Cells.w, sug, ldv, bin, ops2, sh2, binv, Tk.agg, stC, apC, rdS, apS, mvL, zp, argsP, idx, fillP, toInts, chunks, mkC, ixS, ixA, oidx, slP, sl0, mxF, bltn, frzA, frz, frzL, frz1, pur1, Cells.pur, PV.scal, scal1, runD, rdO, PV.ids, id1, zids, ety, Eff.on, cnd, minb, and1b, ifmax, ifmin, mxv, sugI, strv, w0, w1, w2, wm1, bitsOf_len, hws, hwh, List.take_succ_cons, List.take_zero, List.drop_succ_cons, List.drop_zero]
        refine .inl ⟨_, info_Group_ok s sh m g hx _, ?_⟩
        try simp (maxSteps := 1000000) [runs, gd, step1, need, evu, un, opnds, opv, ev, cst, cst1, cstL, getT, getH, putT, onL, nxt, argT, cellsOf, PV.one, thn, inBlk, jmp, fldP, ldP, ldC, live, Cells.len, Cells.get, Cells.w, sug, ldv, bin, ops2, sh2, binv, Tk.agg, stC, apC, rdS, apS, mvL, zp, argsP, idx, fillP, toInts, chunks, mkC, ixS, ixA, oidx, slP, sl0, mxF, bltn, frzA, frz, frzL, frz1, pur1, Cells.pur, PV.scal, scal1, runD, rdO, PV.ids, id1, zids, ety, Eff.on, cnd, minb, and1b, ifmax, ifmin, mxv, sugI, strv, w0, w1, w2, wm1, bitsOf_len, hws, hwh]
        repeat' (first | apply And.intro | intro _)
        any_goals (first | (refine hR35 _ ?_; clear hR35) | (first | omega | (simp only [IntKind.wrap_i64] at *; omega) | (simp_all; done) | (simp_all; omega)))
        try simp (maxSteps := 1000000) [runs, gd, step1, need, evu, un, opnds, opv, ev, cst, cst1, cstL, getT, getH, putT, onL, nxt, argT, cellsOf, PV.one, thn, inBlk, jmp, fldP, ldP, ldC, live, Cells.len, Cells.get, Cells.w, sug, ldv, bin, ops2, sh2, binv, Tk.agg, stC, apC, rdS, apS, mvL, zp, argsP, idx, fillP, toInts, chunks, mkC, ixS, ixA, oidx, slP, sl0, mxF, bltn, frzA, frz, frzL, frz1, pur1, Cells.pur, PV.scal, scal1, runD, rdO, PV.ids, id1, zids, ety, Eff.on, cnd, minb, and1b, ifmax, ifmin, mxv, sugI, strv, w0, w1, w2, wm1, bitsOf_len, hws, hwh, List.take_succ_cons, List.take_zero, List.drop_succ_cons, List.drop_zero]
        repeat' (first | apply And.intro | intro _)
        any_goals (first | (refine hK33 _ ?_; clear hK33) | (first | omega | (simp only [IntKind.wrap_i64] at *; omega) | (simp_all; done) | (simp_all; omega)))
        refine swp_seq fun K36 hK36 => ?_
        refine swp_region ty_ok ?_
        refine runs_cut 2 fun R37 hR37 => ?_
        try simp (maxSteps := 1000000) [runs, gd, step1, need, evu, un, opnds, opv, ev, cst, cst1, cstL, getT, getH, putT, onL, nxt, argT, cellsOf, PV.one, thn, inBlk, jmp, fldP, ldP, ldC, live, Cells.len, Cells.get, Cells.w, sug, ldv, bin, ops2, sh2, binv, Tk.agg, stC, apC, rdS, apS, mvL, zp, argsP, idx, fillP, toInts, chunks, mkC, ixS, ixA, oidx, slP, sl0, mxF, bltn, frzA, frz, frzL, frz1, pur1, Cells.pur, PV.scal, scal1, runD, rdO, PV.ids, id1, zids, ety, Eff.on, cnd, minb, and1b, ifmax, ifmin, mxv, sugI, strv, w0, w1, w2, wm1, bitsOf_len, hws, hwh, List.take_succ_cons, List.take_zero, List.drop_succ_cons, List.drop_zero]
        repeat' (first | apply And.intro | intro _)
        any_goals (first | (refine hR37 _ ?_; clear hR37) | (first | omega | (simp only [IntKind.wrap_i64] at *; omega) | (simp_all; done) | (simp_all; omega)))
        refine runs_cut 1 fun R38 hR38 => ?_
        try simp (maxSteps := 1000000) [runs, gd, step1, need, evu, un, opnds, opv, ev, cst, cst1, cstL, getT, getH, putT, onL, nxt, argT, cellsOf, PV.one, thn, inBlk, jmp, fldP, ldP, ldC, live, Cells.len, Cells.get, Cells.w, sug, ldv, bin, ops2, sh2, binv, Tk.agg, stC, apC, rdS, apS, mvL, zp, argsP, idx, fillP, toInts, chunks, mkC, ixS, ixA, oidx, slP, sl0, mxF, bltn, frzA, frz, frzL, frz1, pur1, Cells.pur, PV.scal, scal1, runD, rdO, PV.ids, id1, zids, ety, Eff.on, cnd, minb, and1b, ifmax, ifmin, mxv, sugI, strv, w0, w1, w2, wm1, bitsOf_len, hws, hwh, List.take_succ_cons, List.take_zero, List.drop_succ_cons, List.drop_zero]
        refine .inl ⟨_, info_Group_ok s sh m g hx _, ?_⟩
        try simp (maxSteps := 1000000) [runs, gd, step1, need, evu, un, opnds, opv, ev, cst, cst1, cstL, getT, getH, putT, onL, nxt, argT, cellsOf, PV.one, thn, inBlk, jmp, fldP, ldP, ldC, live, Cells.len, Cells.get, Cells.w, sug, ldv, bin, ops2, sh2, binv, Tk.agg, stC, apC, rdS, apS, mvL, zp, argsP, idx, fillP, toInts, chunks, mkC, ixS, ixA, oidx, slP, sl0, mxF, bltn, frzA, frz, frzL, frz1, pur1, Cells.pur, PV.scal, scal1, runD, rdO, PV.ids, id1, zids, ety, Eff.on, cnd, minb, and1b, ifmax, ifmin, mxv, sugI, strv, w0, w1, w2, wm1, bitsOf_len, hws, hwh]
        repeat' (first | apply And.intro | intro _)
        any_goals (first | (refine hR38 _ ?_; clear hR38) | (first | omega | (simp only [IntKind.wrap_i64] at *; omega) | (simp_all; done) | (simp_all; omega)))
        try simp (maxSteps := 1000000) [runs, gd, step1, need, evu, un, opnds, opv, ev, cst, cst1, cstL, getT, getH, putT, onL, nxt, argT, cellsOf, PV.one, thn, inBlk, jmp, fldP, ldP, ldC, live, Cells.len, Cells.get, Cells.w, sug, ldv, bin, ops2, sh2, binv, Tk.agg, stC, apC, rdS, apS, mvL, zp, argsP, idx, fillP, toInts, chunks, mkC, ixS, ixA, oidx, slP, sl0, mxF, bltn, frzA, frz, frzL, frz1, pur1, Cells.pur, PV.scal, scal1, runD, rdO, PV.ids, id1, zids, ety, Eff.on, cnd, minb, and1b, ifmax, ifmin, mxv, sugI, strv, w0, w1, w2, wm1, bitsOf_len, hws, hwh, List.take_succ_cons, List.take_zero, List.drop_succ_cons, List.drop_zero]
        repeat' (first | apply And.intro | intro _)
        any_goals (first | (refine hK36 _ ?_; clear hK36) | (first | omega | (simp only [IntKind.wrap_i64] at *; omega) | (simp_all; done) | (simp_all; omega)))
        refine swp_seq fun K39 hK39 => ?_
        refine swp_region ty_ok ?_
        try simp (maxSteps := 1000000) [runs, gd, step1, need, evu, un, opnds, opv, ev, cst, cst1, cstL, getT, getH, putT, onL, nxt, argT, cellsOf, PV.one, thn, inBlk, jmp, fldP, ldP, ldC, live, Cells.len, Cells.get, Cells.w, sug, ldv, bin, ops2, sh2, binv, Tk.agg, stC, apC, rdS, apS, mvL, zp, argsP, idx, fillP, toInts, chunks, mkC, ixS, ixA, oidx, slP, sl0, mxF, bltn, frzA, frz, frzL, frz1, pur1, Cells.pur, PV.scal, scal1, runD, rdO, PV.ids, id1, zids, ety, Eff.on, cnd, minb, and1b, ifmax, ifmin, mxv, sugI, strv, w0, w1, w2, wm1, bitsOf_len, hws, hwh]
        repeat' (first | apply And.intro | intro _)
        any_goals (first | (refine hK39 _ ?_; clear hK39) | (first | omega | (simp only [IntKind.wrap_i64] at *; omega) | (simp_all; done) | (simp_all; omega)))
        refine swp_if fun C40 hC40 => ?_
        try simp (maxSteps := 1000000) [runs, gd, step1, need, evu, un, opnds, opv, ev, cst, cst1, cstL, getT, getH, putT, onL, nxt, argT, cellsOf, PV.one, thn, inBlk, jmp, fldP, ldP, ldC, live, Cells.len, Cells.get, Cells.w, sug, ldv, bin, ops2, sh2, binv, Tk.agg, stC, apC, rdS, apS, mvL, zp, argsP, idx, fillP, toInts, chunks, mkC, ixS, ixA, oidx, slP, sl0, mxF, bltn, frzA, frz, frzL, frz1, pur1, Cells.pur, PV.scal, scal1, runD, rdO, PV.ids, id1, zids, ety, Eff.on, cnd, minb, and1b, ifmax, ifmin, mxv, sugI, strv, w0, w1, w2, wm1, bitsOf_len, hws, hwh]
        refine hC40 _ (fun hc40 => ?_) (fun hc40 => ?_)
        · clear hC40
          try simp at hc40
          refine swp_region ty_ok ?_
          refine runs_cut 1 fun R41 hR41 => ?_
          try simp (maxSteps := 1000000) [runs, gd, step1, need, evu, un, opnds, opv, ev, cst, cst1, cstL, getT, getH, putT, onL, nxt, argT, cellsOf, PV.one, thn, inBlk, jmp, fldP, ldP, ldC, live, Cells.len, Cells.get, Cells.w, sug, ldv, bin, ops2, sh2, binv, Tk.agg, stC, apC, rdS, apS, mvL, zp, argsP, idx, fillP, toInts, chunks, mkC, ixS, ixA, oidx, slP, sl0, mxF, bltn, frzA, frz, frzL, frz1, pur1, Cells.pur, PV.scal, scal1, runD, rdO, PV.ids, id1, zids, ety, Eff.on, cnd, minb, and1b, ifmax, ifmin, mxv, sugI, strv, w0, w1, w2, wm1, bitsOf_len, hws, hwh, List.take_succ_cons, List.take_zero, List.drop_succ_cons, List.drop_zero]
          repeat' (first | apply And.intro | intro _)
          any_goals (first | (refine hR41 _ ?_; clear hR41) | (first | omega | (simp only [IntKind.wrap_i64] at *; omega) | (simp_all; done) | (simp_all; omega)))
          try simp (maxSteps := 1000000) [runs, gd, step1, need, evu, un, opnds, opv, ev, cst, cst1, cstL, getT, getH, putT, onL, nxt, argT, cellsOf, PV.one, thn, inBlk, jmp, fldP, ldP, ldC, live, Cells.len, Cells.get, Cells.w, sug, ldv, bin, ops2, sh2, binv, Tk.agg, stC, apC, rdS, apS, mvL, zp, argsP, idx, fillP, toInts, chunks, mkC, ixS, ixA, oidx, slP, sl0, mxF, bltn, frzA, frz, frzL, frz1, pur1, Cells.pur, PV.scal, scal1, runD, rdO, PV.ids, id1, zids, ety, Eff.on, cnd, minb, and1b, ifmax, ifmin, mxv, sugI, strv, w0, w1, w2, wm1, bitsOf_len, hws, hwh, List.take_succ_cons, List.take_zero, List.drop_succ_cons, List.drop_zero]
          refine .inr (hcl_mk (info_put1 2 (bs ++ (bitsOf 0 1 ++ (bitsOf s.toNat 2 ++ (bitsOf sh.toNat 1 ++ (bitsOf m.toNat 4 ++ grpB g w))))) 1 1 (by decide) (by simp [bitsOf_len, grpB_len]; omega) (by omega)) (by simp [PV.ids, id1, getH, Blk.inL, Cells.inL, inL1]) (by simp [PV.inL, inL1]) (by simp) ?_)
          try simp (maxSteps := 1000000) [runs, gd, step1, need, evu, un, opnds, opv, ev, cst, cst1, cstL, getT, getH, putT, onL, nxt, argT, cellsOf, PV.one, thn, inBlk, jmp, fldP, ldP, ldC, live, Cells.len, Cells.get, Cells.w, sug, ldv, bin, ops2, sh2, binv, Tk.agg, stC, apC, rdS, apS, mvL, zp, argsP, idx, fillP, toInts, chunks, mkC, ixS, ixA, oidx, slP, sl0, mxF, bltn, frzA, frz, frzL, frz1, pur1, Cells.pur, PV.scal, scal1, runD, rdO, PV.ids, id1, zids, ety, Eff.on, cnd, minb, and1b, ifmax, ifmin, mxv, sugI, strv, w0, w1, w2, wm1, bitsOf_len, hws, hwh]
          repeat' (first | apply And.intro | intro _)
          any_goals (first | (refine hK32 _ ?_; clear hK32) | (first | omega | (simp only [IntKind.wrap_i64] at *; omega) | (simp_all; done) | (simp_all; omega)))
          refine swp_region ty_ok ?_
          try simp (maxSteps := 1000000) [runs, gd, step1, need, evu, un, opnds, opv, ev, cst, cst1, cstL, getT, getH, putT, onL, nxt, argT, cellsOf, PV.one, thn, inBlk, jmp, fldP, ldP, ldC, live, Cells.len, Cells.get, Cells.w, sug, ldv, bin, ops2, sh2, binv, Tk.agg, stC, apC, rdS, apS, mvL, zp, argsP, idx, fillP, toInts, chunks, mkC, ixS, ixA, oidx, slP, sl0, mxF, bltn, frzA, frz, frzL, frz1, pur1, Cells.pur, PV.scal, scal1, runD, rdO, PV.ids, id1, zids, ety, Eff.on, cnd, minb, and1b, ifmax, ifmin, mxv, sugI, strv, w0, w1, w2, wm1, bitsOf_len, hws, hwh]
          repeat' apply And.intro
          any_goals (try omega)
          refine hL28 _ ⟨[(3, .ptr 0 0 0 1), (5, .ptr 1 0 0 1), (9, .fn 53 [.ptr 0 0 0 1]), (10, .int .i64 (((w + 1) + 1 : Nat) : Int))], [(0, some ⟨.rows 1 [[.ro (.ints .u8 (bs ++ (bitsOf 0 1 ++ (bitsOf s.toNat 2 ++ (bitsOf sh.toNat 1 ++ (bitsOf m.toNat 4 ++ grpB g (w + 1)))))))]], true, 44⟩), (1, some ⟨.rows 4 [[.int .u8 s, .int .u8 sh, .int .i64 m, .ro (.ints .i64 g)]], true, 24⟩)], 2⟩ _ ?_ ⟨(w + 1), by (first | omega | (simp only [IntKind.wrap_i64] at *; omega) | (simp_all; done) | (simp_all; omega)), rfl, rfl⟩ ⟨by simp [getT, PV.lo, lo1, hw2], by (have hg1 := hg1 (by omega); simp [getH, Blk.lo, Cells.lo, lo1, grpB_succ]; first | (rw [if_pos (by rw [hw0] at *; omega)]; rfl) | (rw [if_neg (by rw [hw0] at *; omega)]; rfl)), rfl, by omega⟩
          omega
        · clear hC40
          try simp at hc40
          refine swp_region ty_ok ?_
          refine runs_cut 1 fun R42 hR42 => ?_
          try simp (maxSteps := 1000000) [runs, gd, step1, need, evu, un, opnds, opv, ev, cst, cst1, cstL, getT, getH, putT, onL, nxt, argT, cellsOf, PV.one, thn, inBlk, jmp, fldP, ldP, ldC, live, Cells.len, Cells.get, Cells.w, sug, ldv, bin, ops2, sh2, binv, Tk.agg, stC, apC, rdS, apS, mvL, zp, argsP, idx, fillP, toInts, chunks, mkC, ixS, ixA, oidx, slP, sl0, mxF, bltn, frzA, frz, frzL, frz1, pur1, Cells.pur, PV.scal, scal1, runD, rdO, PV.ids, id1, zids, ety, Eff.on, cnd, minb, and1b, ifmax, ifmin, mxv, sugI, strv, w0, w1, w2, wm1, bitsOf_len, hws, hwh, List.take_succ_cons, List.take_zero, List.drop_succ_cons, List.drop_zero]
          repeat' (first | apply And.intro | intro _)
          any_goals (first | (refine hR42 _ ?_; clear hR42) | (first | omega | (simp only [IntKind.wrap_i64] at *; omega) | (simp_all; done) | (simp_all; omega)))
          try simp (maxSteps := 1000000) [runs, gd, step1, need, evu, un, opnds, opv, ev, cst, cst1, cstL, getT, getH, putT, onL, nxt, argT, cellsOf, PV.one, thn, inBlk, jmp, fldP, ldP, ldC, live, Cells.len, Cells.get, Cells.w, sug, ldv, bin, ops2, sh2, binv, Tk.agg, stC, apC, rdS, apS, mvL, zp, argsP, idx, fillP, toInts, chunks, mkC, ixS, ixA, oidx, slP, sl0, mxF, bltn, frzA, frz, frzL, frz1, pur1, Cells.pur, PV.scal, scal1, runD, rdO, PV.ids, id1, zids, ety, Eff.on, cnd, minb, and1b, ifmax, ifmin, mxv, sugI, strv, w0, w1, w2, wm1, bitsOf_len, hws, hwh, List.take_succ_cons, List.take_zero, List.drop_succ_cons, List.drop_zero]
          refine .inr (hcl_mk (info_put1 2 (bs ++ (bitsOf 0 1 ++ (bitsOf s.toNat 2 ++ (bitsOf sh.toNat 1 ++ (bitsOf m.toNat 4 ++ grpB g w))))) 0 1 (by decide) (by simp [bitsOf_len, grpB_len]; omega) (by omega)) (by simp [PV.ids, id1, getH, Blk.inL, Cells.inL, inL1]) (by simp [PV.inL, inL1]) (by simp) ?_)
          try simp (maxSteps := 1000000) [runs, gd, step1, need, evu, un, opnds, opv, ev, cst, cst1, cstL, getT, getH, putT, onL, nxt, argT, cellsOf, PV.one, thn, inBlk, jmp, fldP, ldP, ldC, live, Cells.len, Cells.get, Cells.w, sug, ldv, bin, ops2, sh2, binv, Tk.agg, stC, apC, rdS, apS, mvL, zp, argsP, idx, fillP, toInts, chunks, mkC, ixS, ixA, oidx, slP, sl0, mxF, bltn, frzA, frz, frzL, frz1, pur1, Cells.pur, PV.scal, scal1, runD, rdO, PV.ids, id1, zids, ety, Eff.on, cnd, minb, and1b, ifmax, ifmin, mxv, sugI, strv, w0, w1, w2, wm1, bitsOf_len, hws, hwh]
          repeat' (first | apply And.intro | intro _)
          any_goals (first | (refine hK32 _ ?_; clear hK32) | (first | omega | (simp only [IntKind.wrap_i64] at *; omega) | (simp_all; done) | (simp_all; omega)))
          refine swp_region ty_ok ?_
          try simp (maxSteps := 1000000) [runs, gd, step1, need, evu, un, opnds, opv, ev, cst, cst1, cstL, getT, getH, putT, onL, nxt, argT, cellsOf, PV.one, thn, inBlk, jmp, fldP, ldP, ldC, live, Cells.len, Cells.get, Cells.w, sug, ldv, bin, ops2, sh2, binv, Tk.agg, stC, apC, rdS, apS, mvL, zp, argsP, idx, fillP, toInts, chunks, mkC, ixS, ixA, oidx, slP, sl0, mxF, bltn, frzA, frz, frzL, frz1, pur1, Cells.pur, PV.scal, scal1, runD, rdO, PV.ids, id1, zids, ety, Eff.on, cnd, minb, and1b, ifmax, ifmin, mxv, sugI, strv, w0, w1, w2, wm1, bitsOf_len, hws, hwh]
          repeat' apply And.intro
          any_goals (try omega)
          refine hL28 _ ⟨[(3, .ptr 0 0 0 1), (5, .ptr 1 0 0 1), (9, .fn 53 [.ptr 0 0 0 1]), (10, .int .i64 (((w + 1) + 1 : Nat) : Int))], [(0, some ⟨.rows 1 [[.ro (.ints .u8 (bs ++ (bitsOf 0 1 ++ (bitsOf s.toNat 2 ++ (bitsOf sh.toNat 1 ++ (bitsOf m.toNat 4 ++ grpB g (w + 1)))))))]], true, 44⟩), (1, some ⟨.rows 4 [[.int .u8 s, .int .u8 sh, .int .i64 m, .ro (.ints .i64 g)]], true, 24⟩)], 2⟩ _ ?_ ⟨(w + 1), by (first | omega | (simp only [IntKind.wrap_i64] at *; omega) | (simp_all; done) | (simp_all; omega)), rfl, rfl⟩ ⟨by simp [getT, PV.lo, lo1, hw2], by (have hg1 := hg1 (by omega); simp [getH, Blk.lo, Cells.lo, lo1, grpB_succ]; first | (rw [if_pos (by rw [hw0] at *; omega)]; rfl) | (rw [if_neg (by rw [hw0] at *; omega)]; rfl)), rfl, by omega⟩
          omega
      · clear hC31
        try simp at hc31
        refine swp_exit ?_
        simp [thn, inBlk]
        refine hK26 _ ?_; clear hK26
        refine swp_seq fun K43 hK43 => ?_
        refine swp_region ty_ok ?_
        try simp (maxSteps := 1000000) [runs, gd, step1, need, evu, un, opnds, opv, ev, cst, cst1, cstL, getT, getH, putT, onL, nxt, argT, cellsOf, PV.one, thn, inBlk, jmp, fldP, ldP, ldC, live, Cells.len, Cells.get, Cells.w, sug, ldv, bin, ops2, sh2, binv, Tk.agg, stC, apC, rdS, apS, mvL, zp, argsP, idx, fillP, toInts, chunks, mkC, ixS, ixA, oidx, slP, sl0, mxF, bltn, frzA, frz, frzL, frz1, pur1, Cells.pur, PV.scal, scal1, runD, rdO, PV.ids, id1, zids, ety, Eff.on, cnd, minb, and1b, ifmax, ifmin, mxv, sugI, strv, w0, w1, w2, wm1, bitsOf_len, hws, hwh]
        repeat' (first | apply And.intro | intro _)
        any_goals (first | (refine hK43 _ ?_; clear hK43) | (first | omega | (simp only [IntKind.wrap_i64] at *; omega) | (simp_all; done) | (simp_all; omega)))
        refine swp_ret ?_
        simp [runs, gd, step1, need, evu, un, opnds, opv, ev, cst, cst1, cstL, getT, getH, putT, onL, nxt, argT, cellsOf, PV.one, thn, inBlk, jmp, fldP, ldP, ldC, live, Cells.len, Cells.get, Cells.w, sug, ldv, bin, ops2, sh2, binv, Tk.agg, stC, apC, rdS, apS, mvL, zp, argsP, idx, fillP, toInts, chunks, mkC, ixS, ixA, oidx, slP, sl0, mxF, bltn, frzA, frz, frzL, frz1, pur1, Cells.pur, PV.scal, scal1, runD, rdO, PV.ids, id1, zids, ety, Eff.on, cnd, minb, and1b, ifmax, ifmin, mxv, sugI, strv, w0, w1, w2, wm1, fnPost, Try.results30, resP, tupOf]
        have h7 : w = 7 := by omega
        subst h7
        have hz := (by assumption : chI rate s sh m g = 0); rw [if_pos hz, infB, if_pos (by assumption)]; simp [hz]

end Go.Proofs.Ytkhjiabenifplaa
