import Derived.Test.YtkhjiabenifplaaWf
import Derived.Test.YtkhjiabenifplaaTyi
import Derived.Test.YtkhjiabenifplaaWband
import Derived.Test.YtkhjiabenifplaaWinfo
import Derived.Test.YtkhjiabenifplaaWbits
import Derived.Test.YtkhjiabenifplaaWrd
import Derived.Test.YtkhjiabenifplaaWrdq
import Derived.Test.YtkhjiabenifplaaWsct
namespace Go.Proofs.Ytkhjiabenifplaa
set_option linter.unusedVariables false
set_option linter.unusedSimpArgs false
set_option maxRecDepth 10000
open Go Go.Pv

open Go.RowKit
def rfC : Code → List (Code × Code)
  | .seq a b => rfC a ++ rfC b
  | .cond _ a b => rfC a ++ rfC b
  | .block _ a => rfC a
  | .loop a => rfC a
  | .scope a => rfC a
  | .rangeFunc _ _ a b => [(a, b)]
  | _ => []
def rfN (f : Func) (k : Nat) : Code × Code := ((f.body.map rfC).getD []).getD k (.skip, .skip)
theorem div_fin {n j M : Nat} (hM : 0 < M) (h : j ≤ n / M) (h2 : n - j * M < M) : j = n / M ∧ n - j * M = n % M := by
  have h3 := Nat.div_add_mod n M
  have h4 := Nat.mod_lt n hM
  have h5 : j * M ≤ (n / M) * M := Nat.mul_le_mul_right M h
  rw [Nat.mul_comm M] at h3
  have : j = n / M := by
    rcases Nat.lt_or_ge j (n / M) with h6 | h6
    · exfalso
      have h7 : (j + 1) * M ≤ (n / M) * M := Nat.mul_le_mul_right M h6
      rw [Nat.succ_mul] at h7
      omega
    · omega
  refine ⟨this, ?_⟩
  rw [this]
  omega
theorem div_go {n j M : Nat} (hM : 0 < M) (h : j ≤ n / M) (h2 : M ≤ n - j * M) : j + 1 ≤ n / M ∧ n - (j + 1) * M = n - j * M - M := by
  refine ⟨?_, by rw [Nat.succ_mul]; omega⟩
  rcases Nat.lt_or_ge j (n / M) with h6 | h6
  · exact h6
  · exfalso
    have h7 : j = n / M := by omega
    have h3 := Nat.div_add_mod n M
    have h4 := Nat.mod_lt n hM
    rw [Nat.mul_comm M] at h3
    rw [h7] at h2
    omega
theorem psOf_lo {nt k : Nat} {s : List (Nat × PV)} (h : s.all (fun p => p.2.lo k) = true) : ∀ x ∈ psOf nt s, PV.lo k x = true := fun x hx => by
  obtain ⟨t, _, rfl⟩ := List.mem_map.1 hx
  rcases getT_mem s t with h1 | h1
  · rw [h1]; rfl
  · exact List.all_eq_true.1 h _ h1
theorem psOf_mem {nt : Nat} {s : List (Nat × PV)} {x : PV} (hx : x ∈ psOf nt s) : x = .any ∨ ∃ p ∈ s, p.2 = x := by
  obtain ⟨t, _, rfl⟩ := List.mem_map.1 hx
  rcases getT_mem s t with h1 | h1
  · exact .inl h1
  · exact .inr ⟨_, h1, rfl⟩
theorem mo_lt (s : Int) {k : Nat} (h : k ≤ moS s) : k < 2 ^ szS s := by
  rcases szS_F s with ⟨h1, h2⟩ | ⟨h1, h2⟩ <;> rw [h1] <;> omega

theorem sfields_ok (n : Nat) (num most : Int) : HCall Try.prog 52 [.int .i64 num, .int .i64 most] [] n (.fn 65 [.ptr n 0 0 1, .ptr (n + 1) 0 0 1]) [(n, some ⟨.rows 1 [[.int .i64 num]], true, 3⟩), (n + 1, some ⟨.rows 1 [[.int .i64 most]], true, 3⟩)] := by
  refine hcall_body ty_ok Try.func52 rfl (by rfl) (by simp) ?_
  rw [Try.ntmps52]
  refine swp_seq fun K1 hK1 => ?_
  refine swp_region ty_ok ?_
  try simp (maxSteps := 1000000) [runs, gd, step1, need, evu, un, opnds, opv, ev, cst, cst1, cstL, getT, getH, putT, onL, nxt, argT, cellsOf, PV.one, thn, inBlk, jmp, fldP, ldP, ldC, live, Cells.len, Cells.get, Cells.w, sug, ldv, bin, eqF, eq1, ops2, sh2, binv, Tk.agg, stC, apC, rdS, apS, cpC, cpS, mvL, zp, argsP, idx, fillP, toInts, chunks, mkC, ixS, ixA, oidx, slP, sl0, slA, optL, List.append, mxF, bltn, frzA, frz, frzL, frz1, pur1, Cells.pur, PV.scal, scal1, runD, rdO, PV.ids, id1, zids, ety, Eff.on, cnd, minb, and1b, ifmax, ifmin, mxv, sugI, strv, w0, w1, w2, wm1]
  repeat' (first | apply And.intro | intro _)
  any_goals (first | (refine hK1 _ ?_; clear hK1) | (first | omega | (simp only [IntKind.wrap_i64] at *; omega) | (simp_all; done) | (simp_all; omega)))
  refine swp_seq fun K2 hK2 => ?_
  refine swp_region ty_ok ?_
  try simp (maxSteps := 1000000) [runs, gd, step1, need, evu, un, opnds, opv, ev, cst, cst1, cstL, getT, getH, putT, onL, nxt, argT, cellsOf, PV.one, thn, inBlk, jmp, fldP, ldP, ldC, live, Cells.len, Cells.get, Cells.w, sug, ldv, bin, eqF, eq1, ops2, sh2, binv, Tk.agg, stC, apC, rdS, apS, cpC, cpS, mvL, zp, argsP, idx, fillP, toInts, chunks, mkC, ixS, ixA, oidx, slP, sl0, slA, optL, List.append, mxF, bltn, frzA, frz, frzL, frz1, pur1, Cells.pur, PV.scal, scal1, runD, rdO, PV.ids, id1, zids, ety, Eff.on, cnd, minb, and1b, ifmax, ifmin, mxv, sugI, strv, w0, w1, w2, wm1]
  repeat' (first | apply And.intro | intro _)
  any_goals (first | (refine hK2 _ ?_; clear hK2) | (first | omega | (simp only [IntKind.wrap_i64] at *; omega) | (simp_all; done) | (simp_all; omega)))
  refine swp_ret ?_
  simp [runs, gd, step1, need, evu, un, opnds, opv, ev, cst, cst1, cstL, getT, getH, putT, onL, nxt, argT, cellsOf, PV.one, thn, inBlk, jmp, fldP, ldP, ldC, live, Cells.len, Cells.get, Cells.w, sug, ldv, bin, eqF, eq1, ops2, sh2, binv, Tk.agg, stC, apC, rdS, apS, cpC, cpS, mvL, zp, argsP, idx, fillP, toInts, chunks, mkC, ixS, ixA, oidx, slP, sl0, slA, optL, List.append, mxF, bltn, frzA, frz, frzL, frz1, pur1, Cells.pur, PV.scal, scal1, runD, rdO, PV.ids, id1, zids, ety, Eff.on, cnd, minb, and1b, ifmax, ifmin, mxv, sugI, strv, w0, w1, w2, wm1, fnPostH, PV.inR, inR1, PV.inL, inL1, Blk.inL, Cells.inL, put_at, Try.results52, resP, tupOf]

theorem put_round (s sh m : Int) (g : List Int) (x : Sc) (nb : Int) (bs : List Int) (num : Nat) (hnum : num < 2 ^ szS s) (hb : bs.length ≤ 1000000) (L : Loop) (hst : L.state = .ready) (hpd : L.pending = none) (hprm : L.params = #[55]) (hasg : L.assign = (rfN Try.f29 0).1) (hbod : L.body = (rfN Try.f29 0).2) (hsz : L.tmps.size = 66) : RCall Try.prog L 6 [.int .i64 (num : Nat)] [(6, some ⟨.lp L (psOf 66 [(3, .ptr 0 0 0 1), (9, .ptr 2 0 0 1)]), true, 0⟩), (0, some ⟨.rows 1 [[.ro (.ints .u8 bs)]], true, 44⟩), (1, some ⟨.rows 4 [[.int .u8 s, .int .u8 sh, .int .i64 m, .ro (.ints .i64 g)]], true, 24⟩), (2, some ⟨.rows 1 [[.int .i64 (szS s : Nat)]], true, 3⟩), (3, some ⟨.rows 2 [[.int .i64 x.book, .int .i64 x.len]], true, 76⟩), (4, some ⟨.rows 1 [[.int .i64 nb]], true, 3⟩), (5, some ⟨.rows 1 [[.int .i64 (moS s : Nat)]], true, 3⟩)] 7 [(0, some ⟨.rows 1 [[.ro (.ints .u8 (bs ++ bitsOf num (szS s)))]], true, 44⟩)] := by
  have hsz5 : szS s ≤ 5 := by rcases szS_F s with h | h <;> omega
  have hpl := putL_nat (b := bs) (n := num) (s := szS s) (by omega) hnum
  refine rcall_body (nt := 66) (ps := psOf 66 [(3, .ptr 0 0 0 1), (9, .ptr 2 0 0 1)]) (Tt := 0) (tm0 := [(3, .ptr 0 0 0 1), (9, .ptr 2 0 0 1)]) hst hpd (by rw [hprm]; rfl) hsz (psOf_tm (by rfl)) (by simp [getH]) (by simp [Eff.on, put, getH]) (fun ro => ?_)
  rw [hprm, hasg, hbod]
  simp only [List.zip_cons_cons, List.zip_nil_left, List.zip_nil_right, tmA, putT, Nat.reduceLT, if_true]
  refine srp_region ty_ok ?_
  try simp (maxSteps := 1000000) [runs, gd, step1, need, evu, un, opnds, opv, ev, cst, cst1, cstL, getT, getH, putT, onL, nxt, argT, cellsOf, PV.one, thn, inBlk, jmp, fldP, ldP, ldC, live, Cells.len, Cells.get, Cells.w, sug, ldv, bin, eqF, eq1, ops2, sh2, binv, Tk.agg, stC, apC, rdS, apS, cpC, cpS, mvL, zp, argsP, idx, fillP, toInts, chunks, mkC, ixS, ixA, oidx, slP, sl0, slA, optL, List.append, mxF, bltn, frzA, frz, frzL, frz1, pur1, Cells.pur, PV.scal, scal1, runD, rdO, PV.ids, id1, zids, ety, Eff.on, cnd, minb, and1b, ifmax, ifmin, mxv, sugI, strv, w0, w1, w2, wm1]
  refine ⟨rfl, ?_⟩
  refine srp_block ?_
  refine srp_region ty_ok ?_
  refine runs_cut 3 fun R1 hR1 => ?_
  try simp (maxSteps := 1000000) [runs, gd, step1, need, evu, un, opnds, opv, ev, cst, cst1, cstL, getT, getH, putT, onL, nxt, argT, cellsOf, PV.one, thn, inBlk, jmp, fldP, ldP, ldC, live, Cells.len, Cells.get, Cells.w, sug, ldv, bin, eqF, eq1, ops2, sh2, binv, Tk.agg, stC, apC, rdS, apS, cpC, cpS, mvL, zp, argsP, idx, fillP, toInts, chunks, mkC, ixS, ixA, oidx, slP, sl0, slA, optL, List.append, mxF, bltn, frzA, frz, frzL, frz1, pur1, Cells.pur, PV.scal, scal1, runD, rdO, PV.ids, id1, zids, ety, Eff.on, cnd, minb, and1b, ifmax, ifmin, mxv, sugI, strv, w0, w1, w2, wm1, hpl, List.take_succ_cons, List.take_zero, List.drop_succ_cons, List.drop_zero]
  repeat' (first | apply And.intro | intro _)
  any_goals (first | (refine hR1 _ ?_; clear hR1) | (first | omega | (simp only [IntKind.wrap_i64] at *; omega) | (simp_all; done) | (simp_all; omega)))
  refine runs_cut 1 fun R2 hR2 => ?_
  try simp (maxSteps := 1000000) [runs, gd, step1, need, evu, un, opnds, opv, ev, cst, cst1, cstL, getT, getH, putT, onL, nxt, argT, cellsOf, PV.one, thn, inBlk, jmp, fldP, ldP, ldC, live, Cells.len, Cells.get, Cells.w, sug, ldv, bin, eqF, eq1, ops2, sh2, binv, Tk.agg, stC, apC, rdS, apS, cpC, cpS, mvL, zp, argsP, idx, fillP, toInts, chunks, mkC, ixS, ixA, oidx, slP, sl0, slA, optL, List.append, mxF, bltn, frzA, frz, frzL, frz1, pur1, Cells.pur, PV.scal, scal1, runD, rdO, PV.ids, id1, zids, ety, Eff.on, cnd, minb, and1b, ifmax, ifmin, mxv, sugI, strv, w0, w1, w2, wm1, hpl, List.take_succ_cons, List.take_zero, List.drop_succ_cons, List.drop_zero]
  refine .inl ⟨_, put_ok bs (num : Nat) (szS s : Nat) (by omega) (by have : 2 ^ szS s ≤ 2 ^ 5 := Nat.pow_le_pow_right (by omega) hsz5; omega), ?_⟩
  try simp (maxSteps := 1000000) [runs, gd, step1, need, evu, un, opnds, opv, ev, cst, cst1, cstL, getT, getH, putT, onL, nxt, argT, cellsOf, PV.one, thn, inBlk, jmp, fldP, ldP, ldC, live, Cells.len, Cells.get, Cells.w, sug, ldv, bin, eqF, eq1, ops2, sh2, binv, Tk.agg, stC, apC, rdS, apS, cpC, cpS, mvL, zp, argsP, idx, fillP, toInts, chunks, mkC, ixS, ixA, oidx, slP, sl0, slA, optL, List.append, mxF, bltn, frzA, frz, frzL, frz1, pur1, Cells.pur, PV.scal, scal1, runD, rdO, PV.ids, id1, zids, ety, Eff.on, cnd, minb, and1b, ifmax, ifmin, mxv, sugI, strv, w0, w1, w2, wm1, hpl]
  repeat' (first | apply And.intro | intro _)
  any_goals (first | (refine hR2 _ ?_; clear hR2) | (first | omega | (simp only [IntKind.wrap_i64] at *; omega) | (simp_all; done) | (simp_all; omega)))
  try simp (maxSteps := 1000000) [runs, gd, step1, need, evu, un, opnds, opv, ev, cst, cst1, cstL, getT, getH, putT, onL, nxt, argT, cellsOf, PV.one, thn, inBlk, jmp, fldP, ldP, ldC, live, Cells.len, Cells.get, Cells.w, sug, ldv, bin, eqF, eq1, ops2, sh2, binv, Tk.agg, stC, apC, rdS, apS, cpC, cpS, mvL, zp, argsP, idx, fillP, toInts, chunks, mkC, ixS, ixA, oidx, slP, sl0, slA, optL, List.append, mxF, bltn, frzA, frz, frzL, frz1, pur1, Cells.pur, PV.scal, scal1, runD, rdO, PV.ids, id1, zids, ety, Eff.on, cnd, minb, and1b, ifmax, ifmin, mxv, sugI, strv, w0, w1, w2, wm1, hpl, List.take_succ_cons, List.take_zero, List.drop_succ_cons, List.drop_zero]
  refine ⟨rfl, by simp [getH], ?_⟩
  simp [getH, Eff.on, put, Blk.inL, Cells.inL, inL1]

theorem put_fields (L : Loop) (hst : L.state = .ready) (hpd : L.pending = none) (hprm : L.params = #[55]) (hasg : L.assign = (rfN Try.f29 0).1) (hbod : L.body = (rfN Try.f29 0).2) (hsz : L.tmps.size = 66) (s sh m : Int) (g : List Int) (x : Sc) (bs : List Int) (nn : Nat) (hn : nn ≤ 1000) (hb : bs.length ≤ 900000) : HCall Try.prog 65 [.yld 6, .ptr 4 0 0 1, .ptr 5 0 0 1] [(6, some ⟨.lp L (psOf 66 [(3, .ptr 0 0 0 1), (9, .ptr 2 0 0 1)]), true, 0⟩), (0, some ⟨.rows 1 [[.ro (.ints .u8 bs)]], true, 44⟩), (1, some ⟨.rows 4 [[.int .u8 s, .int .u8 sh, .int .i64 m, .ro (.ints .i64 g)]], true, 24⟩), (2, some ⟨.rows 1 [[.int .i64 (szS s : Nat)]], true, 3⟩), (3, some ⟨.rows 2 [[.int .i64 x.book, .int .i64 x.len]], true, 76⟩), (4, some ⟨.rows 1 [[.int .i64 (nn : Nat)]], true, 3⟩), (5, some ⟨.rows 1 [[.int .i64 (moS s : Nat)]], true, 3⟩)] 7 (.tup []) [(0, some ⟨.rows 1 [[.ro (.ints .u8 (bs ++ lfB s nn))]], true, 44⟩), (4, some ⟨.rows 1 [[.int .i64 ((nn % moS s : Nat) : Int)]], true, 3⟩)] := by
  have hplo : ∀ y ∈ (psOf 66 [(3, .ptr 0 0 0 1), (9, .ptr 2 0 0 1)]), PV.lo 7 y = true := psOf_lo (by rfl)
  have hM : 7 ≤ moS s ∧ moS s ≤ 31 := by rcases szS_F s with h | h <;> omega
  have hdn : nn / moS s ≤ 1000 := Nat.le_trans (Nat.div_le_self _ _) hn
  refine hcall_body ty_ok Try.func65 rfl (by rfl) (by simp) ?_
  rw [Try.ntmps65]
  refine swp_seq fun K1 hK1 => ?_
  refine swp_block ?_
  refine swp_loop 7 (fun m_ s_ => ∃ (j : Nat), (j ≤ nn / moS s) ∧ s_ = ⟨[(0, .yld 6), (1, .ptr 4 0 0 1), (2, .ptr 5 0 0 1)], [(6, some ⟨.lp L (psOf 66 [(3, .ptr 0 0 0 1), (9, .ptr 2 0 0 1)]), true, 0⟩), (0, some ⟨.rows 1 [[.ro (.ints .u8 (bs ++ mxB s j))]], true, 44⟩), (1, some ⟨.rows 4 [[.int .u8 s, .int .u8 sh, .int .i64 m, .ro (.ints .i64 g)]], true, 24⟩), (2, some ⟨.rows 1 [[.int .i64 (szS s : Nat)]], true, 3⟩), (3, some ⟨.rows 2 [[.int .i64 x.book, .int .i64 x.len]], true, 76⟩), (4, some ⟨.rows 1 [[.int .i64 ((nn - j * moS s : Nat) : Int)]], true, 3⟩), (5, some ⟨.rows 1 [[.int .i64 (moS s : Nat)]], true, 3⟩)], 7⟩ ∧ m_ = nn / moS s - j) _ ⟨[(0, .yld 6), (1, .ptr 4 0 0 1), (2, .ptr 5 0 0 1)], [(6, some ⟨.lp L (psOf 66 [(3, .ptr 0 0 0 1), (9, .ptr 2 0 0 1)]), true, 0⟩), (0, some ⟨.rows 1 [[.ro (.ints .u8 (bs ++ mxB s 0))]], true, 44⟩), (1, some ⟨.rows 4 [[.int .u8 s, .int .u8 sh, .int .i64 m, .ro (.ints .i64 g)]], true, 24⟩), (2, some ⟨.rows 1 [[.int .i64 (szS s : Nat)]], true, 3⟩), (3, some ⟨.rows 2 [[.int .i64 x.book, .int .i64 x.len]], true, 76⟩), (4, some ⟨.rows 1 [[.int .i64 ((nn - 0 * moS s : Nat) : Int)]], true, 3⟩), (5, some ⟨.rows 1 [[.int .i64 (moS s : Nat)]], true, 3⟩)], 7⟩ ⟨by simp [getT, argT, PV.lo, lo1], by (simp [getH, Blk.lo, Cells.lo, lo1, mxB]; try exact hplo), rfl, by omega⟩ ⟨(0), by (first | omega | (simp only [IntKind.wrap_i64] at *; omega) | (simp_all; done) | (simp_all; omega)), rfl, rfl⟩ ?_
  rintro m_ s_ ⟨j, hL2_0, rfl, rfl⟩ KL2 hL2
  have hml := mxB_len s j
  have hsz5 : szS s ≤ 5 := by rcases szS_F s with h | h <;> omega
  have hjs : j * szS s ≤ 1000 * 5 := Nat.mul_le_mul (by omega) hsz5
  refine swp_seq fun K3 hK3 => ?_
  refine swp_seq fun K4 hK4 => ?_
  refine swp_region ty_ok ?_
  try simp (maxSteps := 1000000) [runs, gd, step1, need, evu, un, opnds, opv, ev, cst, cst1, cstL, getT, getH, putT, onL, nxt, argT, cellsOf, PV.one, thn, inBlk, jmp, fldP, ldP, ldC, live, Cells.len, Cells.get, Cells.w, sug, ldv, bin, eqF, eq1, ops2, sh2, binv, Tk.agg, stC, apC, rdS, apS, cpC, cpS, mvL, zp, argsP, idx, fillP, toInts, chunks, mkC, ixS, ixA, oidx, slP, sl0, slA, optL, List.append, mxF, bltn, frzA, frz, frzL, frz1, pur1, Cells.pur, PV.scal, scal1, runD, rdO, PV.ids, id1, zids, ety, Eff.on, cnd, minb, and1b, ifmax, ifmin, mxv, sugI, strv, w0, w1, w2, wm1]
  repeat' (first | apply And.intro | intro _)
  any_goals (first | (refine hK4 _ ?_; clear hK4) | (first | omega | (simp only [IntKind.wrap_i64] at *; omega) | (simp_all; done) | (simp_all; omega)))
  refine swp_if fun C5 hC5 => ?_
  try simp (maxSteps := 1000000) [runs, gd, step1, need, evu, un, opnds, opv, ev, cst, cst1, cstL, getT, getH, putT, onL, nxt, argT, cellsOf, PV.one, thn, inBlk, jmp, fldP, ldP, ldC, live, Cells.len, Cells.get, Cells.w, sug, ldv, bin, eqF, eq1, ops2, sh2, binv, Tk.agg, stC, apC, rdS, apS, cpC, cpS, mvL, zp, argsP, idx, fillP, toInts, chunks, mkC, ixS, ixA, oidx, slP, sl0, slA, optL, List.append, mxF, bltn, frzA, frz, frzL, frz1, pur1, Cells.pur, PV.scal, scal1, runD, rdO, PV.ids, id1, zids, ety, Eff.on, cnd, minb, and1b, ifmax, ifmin, mxv, sugI, strv, w0, w1, w2, wm1]
  refine hC5 _ (fun hc5 => ?_) (fun hc5 => ?_)
  · clear hC5
    try simp at hc5
    refine swp_skip ?_
    try simp only [thn, inBlk]
    refine hK3 _ ?_; clear hK3
    refine swp_seq fun K6 hK6 => ?_
    refine swp_block ?_
    refine swp_seq fun K7 hK7 => ?_
    have hge : moS s ≤ nn - j * moS s := (by have h := hc5; omega)
    have hgo := div_go (by omega) (by assumption) hge
    refine swp_yield ty_ok 2 _ rfl ?_
    try simp (maxSteps := 1000000) [runs, gd, step1, need, evu, un, opnds, opv, ev, cst, cst1, cstL, getT, getH, putT, onL, nxt, argT, cellsOf, PV.one, thn, inBlk, jmp, fldP, ldP, ldC, live, Cells.len, Cells.get, Cells.w, sug, ldv, bin, eqF, eq1, ops2, sh2, binv, Tk.agg, stC, apC, rdS, apS, cpC, cpS, mvL, zp, argsP, idx, fillP, toInts, chunks, mkC, ixS, ixA, oidx, slP, sl0, slA, optL, List.append, mxF, bltn, frzA, frz, frzL, frz1, pur1, Cells.pur, PV.scal, scal1, runD, rdO, PV.ids, id1, zids, ety, Eff.on, cnd, minb, and1b, ifmax, ifmin, mxv, sugI, strv, w0, w1, w2, wm1, List.take_succ_cons, List.take_zero, List.drop_succ_cons, List.drop_zero, List.take_nil, List.drop_nil]
    refine ⟨10, [11], _, 6, L, (psOf 66 [(3, .ptr 0 0 0 1), (9, .ptr 2 0 0 1)]), 0, [(6, some ⟨.lp L (psOf 66 [(3, .ptr 0 0 0 1), (9, .ptr 2 0 0 1)]), true, 0⟩), (0, some ⟨.rows 1 [[.ro (.ints .u8 (bs ++ mxB s j))]], true, 44⟩), (1, some ⟨.rows 4 [[.int .u8 s, .int .u8 sh, .int .i64 m, .ro (.ints .i64 g)]], true, 24⟩), (2, some ⟨.rows 1 [[.int .i64 (szS s : Nat)]], true, 3⟩), (3, some ⟨.rows 2 [[.int .i64 x.book, .int .i64 x.len]], true, 76⟩), (4, some ⟨.rows 1 [[.int .i64 ((nn - j * moS s : Nat) : Int)]], true, 3⟩), (5, some ⟨.rows 1 [[.int .i64 (moS s : Nat)]], true, 3⟩)], 7, [(0, some ⟨.rows 1 [[.ro (.ints .u8 (bs ++ mxB s (j + 1)))]], true, 44⟩)], rfl, rfl, by simp [getT], by simp [getH], (by intro id; simp only [getH]; repeat' split <;> simp_all), (by simp), (by have h := put_round s sh m g x ((nn - j * moS s : Nat) : Int) (bs ++ mxB s j) (moS s) (mo_lt s (Nat.le_refl _)) (by rw [List.length_append]; omega) L hst hpd hprm hasg hbod hsz; rw [List.append_assoc, ← mxB_succ] at h; simpa [getT] using h), ?_⟩
    try simp (maxSteps := 1000000) [runs, gd, step1, need, evu, un, opnds, opv, ev, cst, cst1, cstL, getT, getH, putT, onL, nxt, argT, cellsOf, PV.one, thn, inBlk, jmp, fldP, ldP, ldC, live, Cells.len, Cells.get, Cells.w, sug, ldv, bin, eqF, eq1, ops2, sh2, binv, Tk.agg, stC, apC, rdS, apS, cpC, cpS, mvL, zp, argsP, idx, fillP, toInts, chunks, mkC, ixS, ixA, oidx, slP, sl0, slA, optL, List.append, mxF, bltn, frzA, frz, frzL, frz1, pur1, Cells.pur, PV.scal, scal1, runD, rdO, PV.ids, id1, zids, ety, Eff.on, cnd, minb, and1b, ifmax, ifmin, mxv, sugI, strv, w0, w1, w2, wm1, List.take_succ_cons, List.take_zero, List.drop_succ_cons, List.drop_zero]
    repeat' (first | apply And.intro | intro _)
    any_goals (first | (refine hK7 _ ?_; clear hK7) | (first | omega | (simp only [IntKind.wrap_i64] at *; omega) | (simp_all; done) | (simp_all; omega)))
    refine swp_if fun C9 hC9 => ?_
    try simp (maxSteps := 1000000) [runs, gd, step1, need, evu, un, opnds, opv, ev, cst, cst1, cstL, getT, getH, putT, onL, nxt, argT, cellsOf, PV.one, thn, inBlk, jmp, fldP, ldP, ldC, live, Cells.len, Cells.get, Cells.w, sug, ldv, bin, eqF, eq1, ops2, sh2, binv, Tk.agg, stC, apC, rdS, apS, cpC, cpS, mvL, zp, argsP, idx, fillP, toInts, chunks, mkC, ixS, ixA, oidx, slP, sl0, slA, optL, List.append, mxF, bltn, frzA, frz, frzL, frz1, pur1, Cells.pur, PV.scal, scal1, runD, rdO, PV.ids, id1, zids, ety, Eff.on, cnd, minb, and1b, ifmax, ifmin, mxv, sugI, strv, w0, w1, w2, wm1]
    refine hC9 _ (fun hc9 => ?_) (fun hc9 => ?_)
    · exact absurd hc9 (by simp)
    · clear hC9
      try simp at hc9
      refine swp_skip ?_
      try simp only [thn, inBlk]
      refine hK6 _ ?_; clear hK6
      have hsb : IntKind.i64.wrap (((nn - j * moS s : Nat) : Int) - (moS s : Nat)) = ((nn - (j + 1) * moS s : Nat) : Int) := by rw [w64 (by omega), hgo.2]; omega
      refine swp_region ty_ok ?_
      try simp (maxSteps := 1000000) [runs, gd, step1, need, evu, un, opnds, opv, ev, cst, cst1, cstL, getT, getH, putT, onL, nxt, argT, cellsOf, PV.one, thn, inBlk, jmp, fldP, ldP, ldC, live, Cells.len, Cells.get, Cells.w, sug, ldv, bin, eqF, eq1, ops2, sh2, binv, Tk.agg, stC, apC, rdS, apS, cpC, cpS, mvL, zp, argsP, idx, fillP, toInts, chunks, mkC, ixS, ixA, oidx, slP, sl0, slA, optL, List.append, mxF, bltn, frzA, frz, frzL, frz1, pur1, Cells.pur, PV.scal, scal1, runD, rdO, PV.ids, id1, zids, ety, Eff.on, cnd, minb, and1b, ifmax, ifmin, mxv, sugI, strv, w0, w1, w2, wm1, hsb]
      repeat' apply And.intro
      any_goals (try omega)
      refine hL2 _ ⟨[(0, .yld 6), (1, .ptr 4 0 0 1), (2, .ptr 5 0 0 1)], [(6, some ⟨.lp L (psOf 66 [(3, .ptr 0 0 0 1), (9, .ptr 2 0 0 1)]), true, 0⟩), (0, some ⟨.rows 1 [[.ro (.ints .u8 (bs ++ mxB s (j + 1)))]], true, 44⟩), (1, some ⟨.rows 4 [[.int .u8 s, .int .u8 sh, .int .i64 m, .ro (.ints .i64 g)]], true, 24⟩), (2, some ⟨.rows 1 [[.int .i64 (szS s : Nat)]], true, 3⟩), (3, some ⟨.rows 2 [[.int .i64 x.book, .int .i64 x.len]], true, 76⟩), (4, some ⟨.rows 1 [[.int .i64 ((nn - (j + 1) * moS s : Nat) : Int)]], true, 3⟩), (5, some ⟨.rows 1 [[.int .i64 (moS s : Nat)]], true, 3⟩)], 7⟩ _ ?_ ⟨(j + 1), by (first | omega | (simp only [IntKind.wrap_i64] at *; omega) | (simp_all; done) | (simp_all; omega)), rfl, rfl⟩ ⟨by simp [getT, PV.lo, lo1], by (simp [getH, Blk.lo, Cells.lo, lo1, mxB_succ, hgo.2]; try exact hplo), rfl, by omega⟩
      omega
  · clear hC5
    try simp at hc5
    refine swp_exit ?_
    simp [thn, inBlk]
    refine hK1 _ ?_; clear hK1
    have hlt : nn - j * moS s < moS s := (by have h := hc5; omega)
    have hfin := div_fin (by omega) (by assumption) hlt
    have hlf : mxB s j ++ bitsOf (nn % moS s) (szS s) = lfB s nn := by unfold lfB; rw [← hfin.1]
    refine swp_yield ty_ok 2 _ rfl ?_
    try simp (maxSteps := 1000000) [runs, gd, step1, need, evu, un, opnds, opv, ev, cst, cst1, cstL, getT, getH, putT, onL, nxt, argT, cellsOf, PV.one, thn, inBlk, jmp, fldP, ldP, ldC, live, Cells.len, Cells.get, Cells.w, sug, ldv, bin, eqF, eq1, ops2, sh2, binv, Tk.agg, stC, apC, rdS, apS, cpC, cpS, mvL, zp, argsP, idx, fillP, toInts, chunks, mkC, ixS, ixA, oidx, slP, sl0, slA, optL, List.append, mxF, bltn, frzA, frz, frzL, frz1, pur1, Cells.pur, PV.scal, scal1, runD, rdO, PV.ids, id1, zids, ety, Eff.on, cnd, minb, and1b, ifmax, ifmin, mxv, sugI, strv, w0, w1, w2, wm1, List.take_succ_cons, List.take_zero, List.drop_succ_cons, List.drop_zero, List.take_nil, List.drop_nil]
    refine ⟨14, [15], _, 6, L, (psOf 66 [(3, .ptr 0 0 0 1), (9, .ptr 2 0 0 1)]), 0, [(6, some ⟨.lp L (psOf 66 [(3, .ptr 0 0 0 1), (9, .ptr 2 0 0 1)]), true, 0⟩), (0, some ⟨.rows 1 [[.ro (.ints .u8 (bs ++ mxB s j))]], true, 44⟩), (1, some ⟨.rows 4 [[.int .u8 s, .int .u8 sh, .int .i64 m, .ro (.ints .i64 g)]], true, 24⟩), (2, some ⟨.rows 1 [[.int .i64 (szS s : Nat)]], true, 3⟩), (3, some ⟨.rows 2 [[.int .i64 x.book, .int .i64 x.len]], true, 76⟩), (4, some ⟨.rows 1 [[.int .i64 ((nn - j * moS s : Nat) : Int)]], true, 3⟩), (5, some ⟨.rows 1 [[.int .i64 (moS s : Nat)]], true, 3⟩)], 7, [(0, some ⟨.rows 1 [[.ro (.ints .u8 (bs ++ lfB s nn))]], true, 44⟩)], rfl, rfl, by simp [getT], by simp [getH], (by intro id; simp only [getH]; repeat' split <;> simp_all), (by simp), (by have h := put_round s sh m g x ((nn - j * moS s : Nat) : Int) (bs ++ mxB s j) (nn - j * moS s) (mo_lt s (by omega)) (by rw [List.length_append]; omega) L hst hpd hprm hasg hbod hsz; rw [List.append_assoc, hfin.2, hlf] at h; simpa [getT, hfin.2] using h), ?_⟩
    try simp (maxSteps := 1000000) [runs, gd, step1, need, evu, un, opnds, opv, ev, cst, cst1, cstL, getT, getH, putT, onL, nxt, argT, cellsOf, PV.one, thn, inBlk, jmp, fldP, ldP, ldC, live, Cells.len, Cells.get, Cells.w, sug, ldv, bin, eqF, eq1, ops2, sh2, binv, Tk.agg, stC, apC, rdS, apS, cpC, cpS, mvL, zp, argsP, idx, fillP, toInts, chunks, mkC, ixS, ixA, oidx, slP, sl0, slA, optL, List.append, mxF, bltn, frzA, frz, frzL, frz1, pur1, Cells.pur, PV.scal, scal1, runD, rdO, PV.ids, id1, zids, ety, Eff.on, cnd, minb, and1b, ifmax, ifmin, mxv, sugI, strv, w0, w1, w2, wm1, List.take_succ_cons, List.take_zero, List.drop_succ_cons, List.drop_zero]
    simp [runs, gd, step1, need, evu, un, opnds, opv, ev, cst, cst1, cstL, getT, getH, putT, onL, nxt, argT, cellsOf, PV.one, thn, inBlk, jmp, fldP, ldP, ldC, live, Cells.len, Cells.get, Cells.w, sug, ldv, bin, eqF, eq1, ops2, sh2, binv, Tk.agg, stC, apC, rdS, apS, cpC, cpS, mvL, zp, argsP, idx, fillP, toInts, chunks, mkC, ixS, ixA, oidx, slP, sl0, slA, optL, List.append, mxF, bltn, frzA, frz, frzL, frz1, pur1, Cells.pur, PV.scal, scal1, runD, rdO, PV.ids, id1, zids, ety, Eff.on, cnd, minb, and1b, ifmax, ifmin, mxv, sugI, strv, w0, w1, w2, wm1, fnPostH, PV.inR, inR1, PV.inL, inL1, Blk.inL, Cells.inL, put_at, Try.results65, resP, tupOf]
    refine ⟨fun y hy => ?_, ?_⟩
    · rcases psOf_mem hy with rfl | ⟨p, hp, rfl⟩
      · rfl
      · simp only [List.mem_cons, List.not_mem_nil, or_false] at hp
        rcases hp with rfl | rfl <;> simp [inL1]
    · rw [hfin.2, Int.natCast_emod]

set_option maxHeartbeats 8000000 in
theorem sput_ok (bs : List Int) (s sh m : Int) (g : List Int) (hx : g.length ≤ 140737488355328) (l : List (List Sc)) (hl : l.length ≤ 1000000) (hw : ∀ w ∈ l, w.length ≤ 1000000) (hb : bs.length ≤ 200000) : PCall Try.prog 29 [.ro (.ints .u8 bs), .agg [.int .u8 s, .int .u8 sh, .int .i64 m, .ro (.ints .i64 g)], .ro (.rows 1 (l.map fun w => [.ro (.rows 2 (w.map Sc.row))]))] (.tup [.ro (.ints .u8 (if chX s sh m g l = 0 then bs ++ aB s l l.length else [])), .int .i64 (chX s sh m g l)]) := by
  have hp0 : putL bs 0 0 = bs := by have := putL_nat (b := bs) (n := 0) (s := 0) (by omega) (by omega); simpa [bitsOf] using this
  refine pcall_body ty_ok Try.func29 rfl (by rfl) (by simp) ?_
  rw [Try.ntmps29]
  refine swp_seq fun K1 hK1 => ?_
  refine swp_region ty_ok ?_
  try simp (maxSteps := 1000000) [runs, gd, step1, need, evu, un, opnds, opv, ev, cst, cst1, cstL, getT, getH, putT, onL, nxt, argT, cellsOf, PV.one, thn, inBlk, jmp, fldP, ldP, ldC, live, Cells.len, Cells.get, Cells.w, sug, ldv, bin, eqF, eq1, ops2, sh2, binv, Tk.agg, stC, apC, rdS, apS, cpC, cpS, mvL, zp, argsP, idx, fillP, toInts, chunks, mkC, ixS, ixA, oidx, slP, sl0, slA, optL, List.append, mxF, bltn, frzA, frz, frzL, frz1, pur1, Cells.pur, PV.scal, scal1, runD, rdO, PV.ids, id1, zids, ety, Eff.on, cnd, minb, and1b, ifmax, ifmin, mxv, sugI, strv, w0, w1, w2, wm1]
  repeat' (first | apply And.intro | intro _)
  any_goals (first | (refine hK1 _ ?_; clear hK1) | (first | omega | (simp only [IntKind.wrap_i64] at *; omega) | (simp_all; done) | (simp_all; omega)))
  refine swp_seq fun K2 hK2 => ?_
  refine swp_seq fun K3 hK3 => ?_
  refine swp_region ty_ok ?_
  refine runs_cut 2 fun R4 hR4 => ?_
  try simp (maxSteps := 1000000) [runs, gd, step1, need, evu, un, opnds, opv, ev, cst, cst1, cstL, getT, getH, putT, onL, nxt, argT, cellsOf, PV.one, thn, inBlk, jmp, fldP, ldP, ldC, live, Cells.len, Cells.get, Cells.w, sug, ldv, bin, eqF, eq1, ops2, sh2, binv, Tk.agg, stC, apC, rdS, apS, cpC, cpS, mvL, zp, argsP, idx, fillP, toInts, chunks, mkC, ixS, ixA, oidx, slP, sl0, slA, optL, List.append, mxF, bltn, frzA, frz, frzL, frz1, pur1, Cells.pur, PV.scal, scal1, runD, rdO, PV.ids, id1, zids, ety, Eff.on, cnd, minb, and1b, ifmax, ifmin, mxv, sugI, strv, w0, w1, w2, wm1, List.take_succ_cons, List.take_zero, List.drop_succ_cons, List.drop_zero]
  repeat' (first | apply And.intro | intro _)
  any_goals (first | (refine hR4 _ ?_; clear hR4) | (first | omega | (simp only [IntKind.wrap_i64] at *; omega) | (simp_all; done) | (simp_all; omega)))
  refine runs_cut 1 fun R5 hR5 => ?_
  try simp (maxSteps := 1000000) [runs, gd, step1, need, evu, un, opnds, opv, ev, cst, cst1, cstL, getT, getH, putT, onL, nxt, argT, cellsOf, PV.one, thn, inBlk, jmp, fldP, ldP, ldC, live, Cells.len, Cells.get, Cells.w, sug, ldv, bin, eqF, eq1, ops2, sh2, binv, Tk.agg, stC, apC, rdS, apS, cpC, cpS, mvL, zp, argsP, idx, fillP, toInts, chunks, mkC, ixS, ixA, oidx, slP, sl0, slA, optL, List.append, mxF, bltn, frzA, frz, frzL, frz1, pur1, Cells.pur, PV.scal, scal1, runD, rdO, PV.ids, id1, zids, ety, Eff.on, cnd, minb, and1b, ifmax, ifmin, mxv, sugI, strv, w0, w1, w2, wm1, List.take_succ_cons, List.take_zero, List.drop_succ_cons, List.drop_zero]
  refine .inl ⟨_, scheck_ok s sh m g hx l hl hw, ?_⟩
  try simp (maxSteps := 1000000) [runs, gd, step1, need, evu, un, opnds, opv, ev, cst, cst1, cstL, getT, getH, putT, onL, nxt, argT, cellsOf, PV.one, thn, inBlk, jmp, fldP, ldP, ldC, live, Cells.len, Cells.get, Cells.w, sug, ldv, bin, eqF, eq1, ops2, sh2, binv, Tk.agg, stC, apC, rdS, apS, cpC, cpS, mvL, zp, argsP, idx, fillP, toInts, chunks, mkC, ixS, ixA, oidx, slP, sl0, slA, optL, List.append, mxF, bltn, frzA, frz, frzL, frz1, pur1, Cells.pur, PV.scal, scal1, runD, rdO, PV.ids, id1, zids, ety, Eff.on, cnd, minb, and1b, ifmax, ifmin, mxv, sugI, strv, w0, w1, w2, wm1]
  repeat' (first | apply And.intro | intro _)
  any_goals (first | (refine hR5 _ ?_; clear hR5) | (first | omega | (simp only [IntKind.wrap_i64] at *; omega) | (simp_all; done) | (simp_all; omega)))
  try simp (maxSteps := 1000000) [runs, gd, step1, need, evu, un, opnds, opv, ev, cst, cst1, cstL, getT, getH, putT, onL, nxt, argT, cellsOf, PV.one, thn, inBlk, jmp, fldP, ldP, ldC, live, Cells.len, Cells.get, Cells.w, sug, ldv, bin, eqF, eq1, ops2, sh2, binv, Tk.agg, stC, apC, rdS, apS, cpC, cpS, mvL, zp, argsP, idx, fillP, toInts, chunks, mkC, ixS, ixA, oidx, slP, sl0, slA, optL, List.append, mxF, bltn, frzA, frz, frzL, frz1, pur1, Cells.pur, PV.scal, scal1, runD, rdO, PV.ids, id1, zids, ety, Eff.on, cnd, minb, and1b, ifmax, ifmin, mxv, sugI, strv, w0, w1, w2, wm1, List.take_succ_cons, List.take_zero, List.drop_succ_cons, List.drop_zero]
  repeat' (first | apply And.intro | intro _)
  any_goals (first | (refine hK3 _ ?_; clear hK3) | (first | omega | (simp only [IntKind.wrap_i64] at *; omega) | (simp_all; done) | (simp_all; omega)))
  refine swp_seq fun K6 hK6 => ?_
  refine swp_region ty_ok ?_
  try simp (maxSteps := 1000000) [runs, gd, step1, need, evu, un, opnds, opv, ev, cst, cst1, cstL, getT, getH, putT, onL, nxt, argT, cellsOf, PV.one, thn, inBlk, jmp, fldP, ldP, ldC, live, Cells.len, Cells.get, Cells.w, sug, ldv, bin, eqF, eq1, ops2, sh2, binv, Tk.agg, stC, apC, rdS, apS, cpC, cpS, mvL, zp, argsP, idx, fillP, toInts, chunks, mkC, ixS, ixA, oidx, slP, sl0, slA, optL, List.append, mxF, bltn, frzA, frz, frzL, frz1, pur1, Cells.pur, PV.scal, scal1, runD, rdO, PV.ids, id1, zids, ety, Eff.on, cnd, minb, and1b, ifmax, ifmin, mxv, sugI, strv, w0, w1, w2, wm1]
  repeat' (first | apply And.intro | intro _)
  any_goals (first | (refine hK6 _ ?_; clear hK6) | (first | omega | (simp only [IntKind.wrap_i64] at *; omega) | (simp_all; done) | (simp_all; omega)))
  refine swp_if fun C7 hC7 => ?_
  try simp (maxSteps := 1000000) [runs, gd, step1, need, evu, un, opnds, opv, ev, cst, cst1, cstL, getT, getH, putT, onL, nxt, argT, cellsOf, PV.one, thn, inBlk, jmp, fldP, ldP, ldC, live, Cells.len, Cells.get, Cells.w, sug, ldv, bin, eqF, eq1, ops2, sh2, binv, Tk.agg, stC, apC, rdS, apS, cpC, cpS, mvL, zp, argsP, idx, fillP, toInts, chunks, mkC, ixS, ixA, oidx, slP, sl0, slA, optL, List.append, mxF, bltn, frzA, frz, frzL, frz1, pur1, Cells.pur, PV.scal, scal1, runD, rdO, PV.ids, id1, zids, ety, Eff.on, cnd, minb, and1b, ifmax, ifmin, mxv, sugI, strv, w0, w1, w2, wm1]
  refine hC7 _ (fun hc7 => ?_) (fun hc7 => ?_)
  · clear hC7
    try simp at hc7
    refine swp_seq fun K8 hK8 => ?_
    refine swp_region ty_ok ?_
    try simp (maxSteps := 1000000) [runs, gd, step1, need, evu, un, opnds, opv, ev, cst, cst1, cstL, getT, getH, putT, onL, nxt, argT, cellsOf, PV.one, thn, inBlk, jmp, fldP, ldP, ldC, live, Cells.len, Cells.get, Cells.w, sug, ldv, bin, eqF, eq1, ops2, sh2, binv, Tk.agg, stC, apC, rdS, apS, cpC, cpS, mvL, zp, argsP, idx, fillP, toInts, chunks, mkC, ixS, ixA, oidx, slP, sl0, slA, optL, List.append, mxF, bltn, frzA, frz, frzL, frz1, pur1, Cells.pur, PV.scal, scal1, runD, rdO, PV.ids, id1, zids, ety, Eff.on, cnd, minb, and1b, ifmax, ifmin, mxv, sugI, strv, w0, w1, w2, wm1]
    repeat' (first | apply And.intro | intro _)
    any_goals (first | (refine hK8 _ ?_; clear hK8) | (first | omega | (simp only [IntKind.wrap_i64] at *; omega) | (simp_all; done) | (simp_all; omega)))
    refine swp_ret ?_
    simp [runs, gd, step1, need, evu, un, opnds, opv, ev, cst, cst1, cstL, getT, getH, putT, onL, nxt, argT, cellsOf, PV.one, thn, inBlk, jmp, fldP, ldP, ldC, live, Cells.len, Cells.get, Cells.w, sug, ldv, bin, eqF, eq1, ops2, sh2, binv, Tk.agg, stC, apC, rdS, apS, cpC, cpS, mvL, zp, argsP, idx, fillP, toInts, chunks, mkC, ixS, ixA, oidx, slP, sl0, slA, optL, List.append, mxF, bltn, frzA, frz, frzL, frz1, pur1, Cells.pur, PV.scal, scal1, runD, rdO, PV.ids, id1, zids, ety, Eff.on, cnd, minb, and1b, ifmax, ifmin, mxv, sugI, strv, w0, w1, w2, wm1, fnPost, Try.results29, resP, tupOf]
    exact fun h => absurd h (by assumption)
  · clear hC7
    try simp at hc7
    refine swp_skip ?_
    try simp only [thn, inBlk]
    refine hK2 _ ?_; clear hK2
    refine swp_seq fun K9 hK9 => ?_
    obtain ⟨hz0, hsB, hl8, hm40⟩ := chX_ok (by assumption : chX s sh m g l = 0)
    obtain ⟨hsl0, hsw⟩ := secB_true hsB
    have hsw2 : ∀ w ∈ l, (∀ x ∈ w, badS x = false) ∧ w.length ≤ 40 := fun w hw => ⟨(hsw w hw).1, (hsw w hw).2.2⟩
    refine swp_region ty_ok ?_
    refine runs_cut 1 fun R10 hR10 => ?_
    try simp (maxSteps := 1000000) [runs, gd, step1, need, evu, un, opnds, opv, ev, cst, cst1, cstL, getT, getH, putT, onL, nxt, argT, cellsOf, PV.one, thn, inBlk, jmp, fldP, ldP, ldC, live, Cells.len, Cells.get, Cells.w, sug, ldv, bin, eqF, eq1, ops2, sh2, binv, Tk.agg, stC, apC, rdS, apS, cpC, cpS, mvL, zp, argsP, idx, fillP, toInts, chunks, mkC, ixS, ixA, oidx, slP, sl0, slA, optL, List.append, mxF, bltn, frzA, frz, frzL, frz1, pur1, Cells.pur, PV.scal, scal1, runD, rdO, PV.ids, id1, zids, ety, Eff.on, cnd, minb, and1b, ifmax, ifmin, mxv, sugI, strv, w0, w1, w2, wm1, List.take_succ_cons, List.take_zero, List.drop_succ_cons, List.drop_zero]
    repeat' (first | apply And.intro | intro _)
    any_goals (first | (refine hR10 _ ?_; clear hR10) | (first | omega | (simp only [IntKind.wrap_i64] at *; omega) | (simp_all; done) | (simp_all; omega)))
    refine runs_cut 1 fun R11 hR11 => ?_
    try simp (maxSteps := 1000000) [runs, gd, step1, need, evu, un, opnds, opv, ev, cst, cst1, cstL, getT, getH, putT, onL, nxt, argT, cellsOf, PV.one, thn, inBlk, jmp, fldP, ldP, ldC, live, Cells.len, Cells.get, Cells.w, sug, ldv, bin, eqF, eq1, ops2, sh2, binv, Tk.agg, stC, apC, rdS, apS, cpC, cpS, mvL, zp, argsP, idx, fillP, toInts, chunks, mkC, ixS, ixA, oidx, slP, sl0, slA, optL, List.append, mxF, bltn, frzA, frz, frzL, frz1, pur1, Cells.pur, PV.scal, scal1, runD, rdO, PV.ids, id1, zids, ety, Eff.on, cnd, minb, and1b, ifmax, ifmin, mxv, sugI, strv, w0, w1, w2, wm1, List.take_succ_cons, List.take_zero, List.drop_succ_cons, List.drop_zero]
    refine .inl ⟨_, field_ok s sh m g, ?_⟩
    try simp (maxSteps := 1000000) [runs, gd, step1, need, evu, un, opnds, opv, ev, cst, cst1, cstL, getT, getH, putT, onL, nxt, argT, cellsOf, PV.one, thn, inBlk, jmp, fldP, ldP, ldC, live, Cells.len, Cells.get, Cells.w, sug, ldv, bin, eqF, eq1, ops2, sh2, binv, Tk.agg, stC, apC, rdS, apS, cpC, cpS, mvL, zp, argsP, idx, fillP, toInts, chunks, mkC, ixS, ixA, oidx, slP, sl0, slA, optL, List.append, mxF, bltn, frzA, frz, frzL, frz1, pur1, Cells.pur, PV.scal, scal1, runD, rdO, PV.ids, id1, zids, ety, Eff.on, cnd, minb, and1b, ifmax, ifmin, mxv, sugI, strv, w0, w1, w2, wm1]
    repeat' (first | apply And.intro | intro _)
    any_goals (first | (refine hR11 _ ?_; clear hR11) | (first | omega | (simp only [IntKind.wrap_i64] at *; omega) | (simp_all; done) | (simp_all; omega)))
    try simp (maxSteps := 1000000) [runs, gd, step1, need, evu, un, opnds, opv, ev, cst, cst1, cstL, getT, getH, putT, onL, nxt, argT, cellsOf, PV.one, thn, inBlk, jmp, fldP, ldP, ldC, live, Cells.len, Cells.get, Cells.w, sug, ldv, bin, eqF, eq1, ops2, sh2, binv, Tk.agg, stC, apC, rdS, apS, cpC, cpS, mvL, zp, argsP, idx, fillP, toInts, chunks, mkC, ixS, ixA, oidx, slP, sl0, slA, optL, List.append, mxF, bltn, frzA, frz, frzL, frz1, pur1, Cells.pur, PV.scal, scal1, runD, rdO, PV.ids, id1, zids, ety, Eff.on, cnd, minb, and1b, ifmax, ifmin, mxv, sugI, strv, w0, w1, w2, wm1, List.take_succ_cons, List.take_zero, List.drop_succ_cons, List.drop_zero]
    repeat' (first | apply And.intro | intro _)
    any_goals (first | (refine hK9 _ ?_; clear hK9) | (first | omega | (simp only [IntKind.wrap_i64] at *; omega) | (simp_all; done) | (simp_all; omega)))
    refine swp_seq fun K12 hK12 => ?_
    refine swp_region ty_ok ?_
    refine runs_cut 1 fun R13 hR13 => ?_
    try simp (maxSteps := 1000000) [runs, gd, step1, need, evu, un, opnds, opv, ev, cst, cst1, cstL, getT, getH, putT, onL, nxt, argT, cellsOf, PV.one, thn, inBlk, jmp, fldP, ldP, ldC, live, Cells.len, Cells.get, Cells.w, sug, ldv, bin, eqF, eq1, ops2, sh2, binv, Tk.agg, stC, apC, rdS, apS, cpC, cpS, mvL, zp, argsP, idx, fillP, toInts, chunks, mkC, ixS, ixA, oidx, slP, sl0, slA, optL, List.append, mxF, bltn, frzA, frz, frzL, frz1, pur1, Cells.pur, PV.scal, scal1, runD, rdO, PV.ids, id1, zids, ety, Eff.on, cnd, minb, and1b, ifmax, ifmin, mxv, sugI, strv, w0, w1, w2, wm1, hp0, List.take_succ_cons, List.take_zero, List.drop_succ_cons, List.drop_zero]
    repeat' (first | apply And.intro | intro _)
    any_goals (first | (refine hR13 _ ?_; clear hR13) | (first | omega | (simp only [IntKind.wrap_i64] at *; omega) | (simp_all; done) | (simp_all; omega)))
    refine runs_cut 1 fun R14 hR14 => ?_
    try simp (maxSteps := 1000000) [runs, gd, step1, need, evu, un, opnds, opv, ev, cst, cst1, cstL, getT, getH, putT, onL, nxt, argT, cellsOf, PV.one, thn, inBlk, jmp, fldP, ldP, ldC, live, Cells.len, Cells.get, Cells.w, sug, ldv, bin, eqF, eq1, ops2, sh2, binv, Tk.agg, stC, apC, rdS, apS, cpC, cpS, mvL, zp, argsP, idx, fillP, toInts, chunks, mkC, ixS, ixA, oidx, slP, sl0, slA, optL, List.append, mxF, bltn, frzA, frz, frzL, frz1, pur1, Cells.pur, PV.scal, scal1, runD, rdO, PV.ids, id1, zids, ety, Eff.on, cnd, minb, and1b, ifmax, ifmin, mxv, sugI, strv, w0, w1, w2, wm1, hp0, List.take_succ_cons, List.take_zero, List.drop_succ_cons, List.drop_zero]
    refine .inl ⟨_, put_ok bs 0 0 (by omega) (by omega), ?_⟩
    try simp (maxSteps := 1000000) [runs, gd, step1, need, evu, un, opnds, opv, ev, cst, cst1, cstL, getT, getH, putT, onL, nxt, argT, cellsOf, PV.one, thn, inBlk, jmp, fldP, ldP, ldC, live, Cells.len, Cells.get, Cells.w, sug, ldv, bin, eqF, eq1, ops2, sh2, binv, Tk.agg, stC, apC, rdS, apS, cpC, cpS, mvL, zp, argsP, idx, fillP, toInts, chunks, mkC, ixS, ixA, oidx, slP, sl0, slA, optL, List.append, mxF, bltn, frzA, frz, frzL, frz1, pur1, Cells.pur, PV.scal, scal1, runD, rdO, PV.ids, id1, zids, ety, Eff.on, cnd, minb, and1b, ifmax, ifmin, mxv, sugI, strv, w0, w1, w2, wm1, hp0]
    repeat' (first | apply And.intro | intro _)
    any_goals (first | (refine hR14 _ ?_; clear hR14) | (first | omega | (simp only [IntKind.wrap_i64] at *; omega) | (simp_all; done) | (simp_all; omega)))
    try simp (maxSteps := 1000000) [runs, gd, step1, need, evu, un, opnds, opv, ev, cst, cst1, cstL, getT, getH, putT, onL, nxt, argT, cellsOf, PV.one, thn, inBlk, jmp, fldP, ldP, ldC, live, Cells.len, Cells.get, Cells.w, sug, ldv, bin, eqF, eq1, ops2, sh2, binv, Tk.agg, stC, apC, rdS, apS, cpC, cpS, mvL, zp, argsP, idx, fillP, toInts, chunks, mkC, ixS, ixA, oidx, slP, sl0, slA, optL, List.append, mxF, bltn, frzA, frz, frzL, frz1, pur1, Cells.pur, PV.scal, scal1, runD, rdO, PV.ids, id1, zids, ety, Eff.on, cnd, minb, and1b, ifmax, ifmin, mxv, sugI, strv, w0, w1, w2, wm1, hp0, List.take_succ_cons, List.take_zero, List.drop_succ_cons, List.drop_zero]
    repeat' (first | apply And.intro | intro _)
    any_goals (first | (refine hK12 _ ?_; clear hK12) | (first | omega | (simp only [IntKind.wrap_i64] at *; omega) | (simp_all; done) | (simp_all; omega)))
    refine swp_seq fun K15 hK15 => ?_
    refine swp_seq fun K16 hK16 => ?_
    refine swp_region ty_ok ?_
    try simp (maxSteps := 1000000) [runs, gd, step1, need, evu, un, opnds, opv, ev, cst, cst1, cstL, getT, getH, putT, onL, nxt, argT, cellsOf, PV.one, thn, inBlk, jmp, fldP, ldP, ldC, live, Cells.len, Cells.get, Cells.w, sug, ldv, bin, eqF, eq1, ops2, sh2, binv, Tk.agg, stC, apC, rdS, apS, cpC, cpS, mvL, zp, argsP, idx, fillP, toInts, chunks, mkC, ixS, ixA, oidx, slP, sl0, slA, optL, List.append, mxF, bltn, frzA, frz, frzL, frz1, pur1, Cells.pur, PV.scal, scal1, runD, rdO, PV.ids, id1, zids, ety, Eff.on, cnd, minb, and1b, ifmax, ifmin, mxv, sugI, strv, w0, w1, w2, wm1]
    repeat' (first | apply And.intro | intro _)
    any_goals (first | (refine hK16 _ ?_; clear hK16) | (first | omega | (simp only [IntKind.wrap_i64] at *; omega) | (simp_all; done) | (simp_all; omega)))
    refine swp_block ?_
    refine swp_loop 3 (fun m_ s_ => ∃ (k : Nat), (k ≤ l.length) ∧ s_ = ⟨[(3, .ptr 0 0 0 1), (9, .ptr 2 0 0 1), (10, .int .i64 (moS s : Nat)), (32, .ro (.rows 1 (l.map fun w => [.ro (.rows 2 (w.map Sc.row))]))), (33, .int .i64 (l.length : Nat)), (34, .int .i64 (k : Nat))], [(0, some ⟨.rows 1 [[.ro (.ints .u8 (bs ++ aB s l k))]], true, 44⟩), (1, some ⟨.rows 4 [[.int .u8 s, .int .u8 sh, .int .i64 m, .ro (.ints .i64 g)]], true, 24⟩), (2, some ⟨.rows 1 [[.int .i64 (szS s : Nat)]], true, 3⟩)], 3⟩ ∧ m_ = l.length - k) _ ⟨[(3, .ptr 0 0 0 1), (9, .ptr 2 0 0 1), (10, .int .i64 (moS s : Nat)), (32, .ro (.rows 1 (l.map fun w => [.ro (.rows 2 (w.map Sc.row))]))), (33, .int .i64 (l.length : Nat)), (34, .int .i64 (0 : Nat))], [(0, some ⟨.rows 1 [[.ro (.ints .u8 (bs ++ aB s l 0))]], true, 44⟩), (1, some ⟨.rows 4 [[.int .u8 s, .int .u8 sh, .int .i64 m, .ro (.ints .i64 g)]], true, 24⟩), (2, some ⟨.rows 1 [[.int .i64 (szS s : Nat)]], true, 3⟩)], 3⟩ ⟨by simp [getT, PV.lo, lo1], by simp [getH, Blk.lo, Cells.lo, lo1, aB], rfl, by omega⟩ ⟨(0), by (first | omega | (simp only [IntKind.wrap_i64] at *; omega) | (simp_all; done) | (simp_all; omega)), rfl, rfl⟩ ?_
    rintro m_ s_ ⟨k, hL17_0, rfl, rfl⟩ KL17 hL17
    have hkw := wnext (i := k) (by omega)
    refine swp_seq fun K18 hK18 => ?_
    refine swp_region ty_ok ?_
    try simp (maxSteps := 1000000) [runs, gd, step1, need, evu, un, opnds, opv, ev, cst, cst1, cstL, getT, getH, putT, onL, nxt, argT, cellsOf, PV.one, thn, inBlk, jmp, fldP, ldP, ldC, live, Cells.len, Cells.get, Cells.w, sug, ldv, bin, eqF, eq1, ops2, sh2, binv, Tk.agg, stC, apC, rdS, apS, cpC, cpS, mvL, zp, argsP, idx, fillP, toInts, chunks, mkC, ixS, ixA, oidx, slP, sl0, slA, optL, List.append, mxF, bltn, frzA, frz, frzL, frz1, pur1, Cells.pur, PV.scal, scal1, runD, rdO, PV.ids, id1, zids, ety, Eff.on, cnd, minb, and1b, ifmax, ifmin, mxv, sugI, strv, w0, w1, w2, wm1]
    repeat' (first | apply And.intro | intro _)
    any_goals (first | (refine hK18 _ ?_; clear hK18) | (first | omega | (simp only [IntKind.wrap_i64] at *; omega) | (simp_all; done) | (simp_all; omega)))
    refine swp_seq fun K19 hK19 => ?_
    refine swp_if fun C20 hC20 => ?_
    try simp (maxSteps := 1000000) [runs, gd, step1, need, evu, un, opnds, opv, ev, cst, cst1, cstL, getT, getH, putT, onL, nxt, argT, cellsOf, PV.one, thn, inBlk, jmp, fldP, ldP, ldC, live, Cells.len, Cells.get, Cells.w, sug, ldv, bin, eqF, eq1, ops2, sh2, binv, Tk.agg, stC, apC, rdS, apS, cpC, cpS, mvL, zp, argsP, idx, fillP, toInts, chunks, mkC, ixS, ixA, oidx, slP, sl0, slA, optL, List.append, mxF, bltn, frzA, frz, frzL, frz1, pur1, Cells.pur, PV.scal, scal1, runD, rdO, PV.ids, id1, zids, ety, Eff.on, cnd, minb, and1b, ifmax, ifmin, mxv, sugI, strv, w0, w1, w2, wm1]
    refine hC20 _ (fun hc20 => ?_) (fun hc20 => ?_)
    · clear hC20
      try simp at hc20
      refine swp_skip ?_
      try simp only [thn, inBlk]
      refine hK19 _ ?_; clear hK19
      refine swp_seq fun K21 hK21 => ?_
      refine swp_block ?_
      refine swp_seq fun K22 hK22 => ?_
      have hrow := s_at (l := l) (k := k) (by omega)
      obtain ⟨hb1, hb2⟩ := hsw2 _ (mem_at (w := l) (j := k) (by omega))
      have hb2 : (l[k]?.getD []).length ≤ 40 := hb2
      have hb1 : ∀ y ∈ (l[k]?.getD []), badS y = false := hb1
      have hasc := aB_succ s l k (by omega)
      have hal := aB_len (s := s) hsw2 k hl8
      refine swp_region ty_ok ?_
      try simp (maxSteps := 1000000) [runs, gd, step1, need, evu, un, opnds, opv, ev, cst, cst1, cstL, getT, getH, putT, onL, nxt, argT, cellsOf, PV.one, thn, inBlk, jmp, fldP, ldP, ldC, live, Cells.len, Cells.get, Cells.w, sug, ldv, bin, eqF, eq1, ops2, sh2, binv, Tk.agg, stC, apC, rdS, apS, cpC, cpS, mvL, zp, argsP, idx, fillP, toInts, chunks, mkC, ixS, ixA, oidx, slP, sl0, slA, optL, List.append, mxF, bltn, frzA, frz, frzL, frz1, pur1, Cells.pur, PV.scal, scal1, runD, rdO, PV.ids, id1, zids, ety, Eff.on, cnd, minb, and1b, ifmax, ifmin, mxv, sugI, strv, w0, w1, w2, wm1, hrow]
      repeat' (first | apply And.intro | intro _)
      any_goals (first | (refine hK22 _ ?_; clear hK22) | (first | omega | (simp only [IntKind.wrap_i64] at *; omega) | (simp_all; done) | (simp_all; omega)))
      refine swp_seq fun K23 hK23 => ?_
      refine swp_region ty_ok ?_
      try simp (maxSteps := 1000000) [runs, gd, step1, need, evu, un, opnds, opv, ev, cst, cst1, cstL, getT, getH, putT, onL, nxt, argT, cellsOf, PV.one, thn, inBlk, jmp, fldP, ldP, ldC, live, Cells.len, Cells.get, Cells.w, sug, ldv, bin, eqF, eq1, ops2, sh2, binv, Tk.agg, stC, apC, rdS, apS, cpC, cpS, mvL, zp, argsP, idx, fillP, toInts, chunks, mkC, ixS, ixA, oidx, slP, sl0, slA, optL, List.append, mxF, bltn, frzA, frz, frzL, frz1, pur1, Cells.pur, PV.scal, scal1, runD, rdO, PV.ids, id1, zids, ety, Eff.on, cnd, minb, and1b, ifmax, ifmin, mxv, sugI, strv, w0, w1, w2, wm1]
      repeat' (first | apply And.intro | intro _)
      any_goals (first | (refine hK23 _ ?_; clear hK23) | (first | omega | (simp only [IntKind.wrap_i64] at *; omega) | (simp_all; done) | (simp_all; omega)))
      refine swp_block ?_
      refine swp_loop 3 (fun m_ s_ => ∃ (j : Nat), (j ≤ (l[k]?.getD []).length) ∧ s_ = ⟨[(3, .ptr 0 0 0 1), (9, .ptr 2 0 0 1), (10, .int .i64 (moS s : Nat)), (32, .ro (.rows 1 (l.map fun w => [.ro (.rows 2 (w.map Sc.row))]))), (33, .int .i64 (l.length : Nat)), (34, .int .i64 (k : Nat)), (38, .ro (.rows 2 ((l[k]?.getD []).map Sc.row))), (39, .int .i64 ((l[k]?.getD []).length : Nat)), (40, .int .i64 (j : Nat))], [(0, some ⟨.rows 1 [[.ro (.ints .u8 (bs ++ (aB s l k ++ wB s (l[k]?.getD []) j)))]], true, 44⟩), (1, some ⟨.rows 4 [[.int .u8 s, .int .u8 sh, .int .i64 m, .ro (.ints .i64 g)]], true, 24⟩), (2, some ⟨.rows 1 [[.int .i64 (szS s : Nat)]], true, 3⟩)], 3⟩ ∧ m_ = (l[k]?.getD []).length - j) _ ⟨[(3, .ptr 0 0 0 1), (9, .ptr 2 0 0 1), (10, .int .i64 (moS s : Nat)), (32, .ro (.rows 1 (l.map fun w => [.ro (.rows 2 (w.map Sc.row))]))), (33, .int .i64 (l.length : Nat)), (34, .int .i64 (k : Nat)), (38, .ro (.rows 2 ((l[k]?.getD []).map Sc.row))), (39, .int .i64 ((l[k]?.getD []).length : Nat)), (40, .int .i64 (0 : Nat))], [(0, some ⟨.rows 1 [[.ro (.ints .u8 (bs ++ (aB s l k ++ wB s (l[k]?.getD []) 0)))]], true, 44⟩), (1, some ⟨.rows 4 [[.int .u8 s, .int .u8 sh, .int .i64 m, .ro (.ints .i64 g)]], true, 24⟩), (2, some ⟨.rows 1 [[.int .i64 (szS s : Nat)]], true, 3⟩)], 3⟩ ⟨by simp [getT, PV.lo, lo1], by simp [getH, Blk.lo, Cells.lo, lo1, wB], rfl, by omega⟩ ⟨(0), by (first | omega | (simp only [IntKind.wrap_i64] at *; omega) | (simp_all; done) | (simp_all; omega)), rfl, rfl⟩ ?_
      rintro m_ s_ ⟨j, hL24_0, rfl, rfl⟩ KL24 hL24
      have hjw := wnext (i := j) (by omega)
      refine swp_seq fun K25 hK25 => ?_
      refine swp_region ty_ok ?_
      try simp (maxSteps := 1000000) [runs, gd, step1, need, evu, un, opnds, opv, ev, cst, cst1, cstL, getT, getH, putT, onL, nxt, argT, cellsOf, PV.one, thn, inBlk, jmp, fldP, ldP, ldC, live, Cells.len, Cells.get, Cells.w, sug, ldv, bin, eqF, eq1, ops2, sh2, binv, Tk.agg, stC, apC, rdS, apS, cpC, cpS, mvL, zp, argsP, idx, fillP, toInts, chunks, mkC, ixS, ixA, oidx, slP, sl0, slA, optL, List.append, mxF, bltn, frzA, frz, frzL, frz1, pur1, Cells.pur, PV.scal, scal1, runD, rdO, PV.ids, id1, zids, ety, Eff.on, cnd, minb, and1b, ifmax, ifmin, mxv, sugI, strv, w0, w1, w2, wm1]
      repeat' (first | apply And.intro | intro _)
      any_goals (first | (refine hK25 _ ?_; clear hK25) | (first | omega | (simp only [IntKind.wrap_i64] at *; omega) | (simp_all; done) | (simp_all; omega)))
      refine swp_seq fun K26 hK26 => ?_
      refine swp_if fun C27 hC27 => ?_
      try simp (maxSteps := 1000000) [runs, gd, step1, need, evu, un, opnds, opv, ev, cst, cst1, cstL, getT, getH, putT, onL, nxt, argT, cellsOf, PV.one, thn, inBlk, jmp, fldP, ldP, ldC, live, Cells.len, Cells.get, Cells.w, sug, ldv, bin, eqF, eq1, ops2, sh2, binv, Tk.agg, stC, apC, rdS, apS, cpC, cpS, mvL, zp, argsP, idx, fillP, toInts, chunks, mkC, ixS, ixA, oidx, slP, sl0, slA, optL, List.append, mxF, bltn, frzA, frz, frzL, frz1, pur1, Cells.pur, PV.scal, scal1, runD, rdO, PV.ids, id1, zids, ety, Eff.on, cnd, minb, and1b, ifmax, ifmin, mxv, sugI, strv, w0, w1, w2, wm1]
      refine hC27 _ (fun hc27 => ?_) (fun hc27 => ?_)
      · clear hC27
        try simp at hc27
        refine swp_skip ?_
        try simp only [thn, inBlk]
        refine hK26 _ ?_; clear hK26
        refine swp_seq fun K28 hK28 => ?_
        refine swp_block ?_
        refine swp_seq fun K29 hK29 => ?_
        have hrj := sc_at (ws := (l[k]?.getD [])) (k := j) (by omega)
        have hbj := badS_no (hb1 _ (mem_at (w := (l[k]?.getD [])) (j := j) (by omega)))
        obtain ⟨bk, hbk⟩ := Int.eq_ofNat_of_zero_le (show 0 ≤ ((l[k]?.getD [])[j]?.getD default).book by omega)
        obtain ⟨ln, hln⟩ := Int.eq_ofNat_of_zero_le (show 0 ≤ ((l[k]?.getD [])[j]?.getD default).len by omega)
        have hwl := wB_len (s := s) hb1 j hb2
        have hpl : putL (bs ++ (aB s l k ++ wB s (l[k]?.getD []) j)) ((bk : Nat) : Int) 4 = bs ++ (aB s l k ++ wB s (l[k]?.getD []) j) ++ bitsOf bk 4 := putL_nat (b := bs ++ (aB s l k ++ wB s (l[k]?.getD []) j)) (n := bk) (s := 4) (by omega) (by omega)
        have hsc := wB_succ s (l[k]?.getD []) j (by omega)
        have hse : scB s ((l[k]?.getD [])[j]?.getD default) = bitsOf bk 4 ++ lfB s ln := by unfold scB; rw [hbk, hln]; rfl
        rw [hse] at hsc
        have hb4 := bitsOf_len bk 4
        refine swp_region ty_ok ?_
        try simp (maxSteps := 1000000) [runs, gd, step1, need, evu, un, opnds, opv, ev, cst, cst1, cstL, getT, getH, putT, onL, nxt, argT, cellsOf, PV.one, thn, inBlk, jmp, fldP, ldP, ldC, live, Cells.len, Cells.get, Cells.w, sug, ldv, bin, eqF, eq1, ops2, sh2, binv, Tk.agg, stC, apC, rdS, apS, cpC, cpS, mvL, zp, argsP, idx, fillP, toInts, chunks, mkC, ixS, ixA, oidx, slP, sl0, slA, optL, List.append, mxF, bltn, frzA, frz, frzL, frz1, pur1, Cells.pur, PV.scal, scal1, runD, rdO, PV.ids, id1, zids, ety, Eff.on, cnd, minb, and1b, ifmax, ifmin, mxv, sugI, strv, w0, w1, w2, wm1, hrj]
        repeat' (first | apply And.intro | intro _)
        any_goals (first | (refine hK29 _ ?_; clear hK29) | (first | omega | (simp only [IntKind.wrap_i64] at *; omega) | (simp_all; done) | (simp_all; omega)))
        refine swp_seq fun K30 hK30 => ?_
        refine swp_region ty_ok ?_
        refine runs_cut 3 fun R31 hR31 => ?_
        try simp (maxSteps := 1000000) [runs, gd, step1, need, evu, un, opnds, opv, ev, cst, cst1, cstL, getT, getH, putT, onL, nxt, argT, cellsOf, PV.one, thn, inBlk, jmp, fldP, ldP, ldC, live, Cells.len, Cells.get, Cells.w, sug, ldv, bin, eqF, eq1, ops2, sh2, binv, Tk.agg, stC, apC, rdS, apS, cpC, cpS, mvL, zp, argsP, idx, fillP, toInts, chunks, mkC, ixS, ixA, oidx, slP, sl0, slA, optL, List.append, mxF, bltn, frzA, frz, frzL, frz1, pur1, Cells.pur, PV.scal, scal1, runD, rdO, PV.ids, id1, zids, ety, Eff.on, cnd, minb, and1b, ifmax, ifmin, mxv, sugI, strv, w0, w1, w2, wm1, hbk, hpl, List.take_succ_cons, List.take_zero, List.drop_succ_cons, List.drop_zero]
        repeat' (first | apply And.intro | intro _)
        any_goals (first | (refine hR31 _ ?_; clear hR31) | (first | omega | (simp only [IntKind.wrap_i64] at *; omega) | (simp_all; done) | (simp_all; omega)))
        refine runs_cut 1 fun R32 hR32 => ?_
        try simp (maxSteps := 1000000) [runs, gd, step1, need, evu, un, opnds, opv, ev, cst, cst1, cstL, getT, getH, putT, onL, nxt, argT, cellsOf, PV.one, thn, inBlk, jmp, fldP, ldP, ldC, live, Cells.len, Cells.get, Cells.w, sug, ldv, bin, eqF, eq1, ops2, sh2, binv, Tk.agg, stC, apC, rdS, apS, cpC, cpS, mvL, zp, argsP, idx, fillP, toInts, chunks, mkC, ixS, ixA, oidx, slP, sl0, slA, optL, List.append, mxF, bltn, frzA, frz, frzL, frz1, pur1, Cells.pur, PV.scal, scal1, runD, rdO, PV.ids, id1, zids, ety, Eff.on, cnd, minb, and1b, ifmax, ifmin, mxv, sugI, strv, w0, w1, w2, wm1, hbk, hpl, List.take_succ_cons, List.take_zero, List.drop_succ_cons, List.drop_zero]
        refine .inl ⟨_, put_ok (bs ++ (aB s l k ++ wB s (l[k]?.getD []) j)) (bk : Nat) 4 (by simp only [List.length_append]; omega) (by omega), ?_⟩
        try simp (maxSteps := 1000000) [runs, gd, step1, need, evu, un, opnds, opv, ev, cst, cst1, cstL, getT, getH, putT, onL, nxt, argT, cellsOf, PV.one, thn, inBlk, jmp, fldP, ldP, ldC, live, Cells.len, Cells.get, Cells.w, sug, ldv, bin, eqF, eq1, ops2, sh2, binv, Tk.agg, stC, apC, rdS, apS, cpC, cpS, mvL, zp, argsP, idx, fillP, toInts, chunks, mkC, ixS, ixA, oidx, slP, sl0, slA, optL, List.append, mxF, bltn, frzA, frz, frzL, frz1, pur1, Cells.pur, PV.scal, scal1, runD, rdO, PV.ids, id1, zids, ety, Eff.on, cnd, minb, and1b, ifmax, ifmin, mxv, sugI, strv, w0, w1, w2, wm1, hbk, hpl]
        repeat' (first | apply And.intro | intro _)
        any_goals (first | (refine hR32 _ ?_; clear hR32) | (first | omega | (simp only [IntKind.wrap_i64] at *; omega) | (simp_all; done) | (simp_all; omega)))
        try simp (maxSteps := 1000000) [runs, gd, step1, need, evu, un, opnds, opv, ev, cst, cst1, cstL, getT, getH, putT, onL, nxt, argT, cellsOf, PV.one, thn, inBlk, jmp, fldP, ldP, ldC, live, Cells.len, Cells.get, Cells.w, sug, ldv, bin, eqF, eq1, ops2, sh2, binv, Tk.agg, stC, apC, rdS, apS, cpC, cpS, mvL, zp, argsP, idx, fillP, toInts, chunks, mkC, ixS, ixA, oidx, slP, sl0, slA, optL, List.append, mxF, bltn, frzA, frz, frzL, frz1, pur1, Cells.pur, PV.scal, scal1, runD, rdO, PV.ids, id1, zids, ety, Eff.on, cnd, minb, and1b, ifmax, ifmin, mxv, sugI, strv, w0, w1, w2, wm1, hbk, hpl, List.take_succ_cons, List.take_zero, List.drop_succ_cons, List.drop_zero]
        repeat' (first | apply And.intro | intro _)
        any_goals (first | (refine hK30 _ ?_; clear hK30) | (first | omega | (simp only [IntKind.wrap_i64] at *; omega) | (simp_all; done) | (simp_all; omega)))
        refine swp_seq fun K33 hK33 => ?_
        refine swp_region ty_ok ?_
        refine runs_cut 3 fun R34 hR34 => ?_
        try simp (maxSteps := 1000000) [runs, gd, step1, need, evu, un, opnds, opv, ev, cst, cst1, cstL, getT, getH, putT, onL, nxt, argT, cellsOf, PV.one, thn, inBlk, jmp, fldP, ldP, ldC, live, Cells.len, Cells.get, Cells.w, sug, ldv, bin, eqF, eq1, ops2, sh2, binv, Tk.agg, stC, apC, rdS, apS, cpC, cpS, mvL, zp, argsP, idx, fillP, toInts, chunks, mkC, ixS, ixA, oidx, slP, sl0, slA, optL, List.append, mxF, bltn, frzA, frz, frzL, frz1, pur1, Cells.pur, PV.scal, scal1, runD, rdO, PV.ids, id1, zids, ety, Eff.on, cnd, minb, and1b, ifmax, ifmin, mxv, sugI, strv, w0, w1, w2, wm1, List.take_succ_cons, List.take_zero, List.drop_succ_cons, List.drop_zero]
        repeat' (first | apply And.intro | intro _)
        any_goals (first | (refine hR34 _ ?_; clear hR34) | (first | omega | (simp only [IntKind.wrap_i64] at *; omega) | (simp_all; done) | (simp_all; omega)))
        try simp (maxSteps := 1000000) [runs, gd, step1, need, evu, un, opnds, opv, ev, cst, cst1, cstL, getT, getH, putT, onL, nxt, argT, cellsOf, PV.one, thn, inBlk, jmp, fldP, ldP, ldC, live, Cells.len, Cells.get, Cells.w, sug, ldv, bin, eqF, eq1, ops2, sh2, binv, Tk.agg, stC, apC, rdS, apS, cpC, cpS, mvL, zp, argsP, idx, fillP, toInts, chunks, mkC, ixS, ixA, oidx, slP, sl0, slA, optL, List.append, mxF, bltn, frzA, frz, frzL, frz1, pur1, Cells.pur, PV.scal, scal1, runD, rdO, PV.ids, id1, zids, ety, Eff.on, cnd, minb, and1b, ifmax, ifmin, mxv, sugI, strv, w0, w1, w2, wm1, List.take_succ_cons, List.take_zero, List.drop_succ_cons, List.drop_zero]
        refine .inr (hcl_mk (sfields_ok 4 ((l[k]?.getD [])[j]?.getD default).len (moS s : Nat)) (by simp [PV.ids, id1, getH, Blk.inL, Cells.inL, inL1]) (by simp [PV.inL, inL1]) (by simp) ?_)
        try simp (maxSteps := 1000000) [runs, gd, step1, need, evu, un, opnds, opv, ev, cst, cst1, cstL, getT, getH, putT, onL, nxt, argT, cellsOf, PV.one, thn, inBlk, jmp, fldP, ldP, ldC, live, Cells.len, Cells.get, Cells.w, sug, ldv, bin, eqF, eq1, ops2, sh2, binv, Tk.agg, stC, apC, rdS, apS, cpC, cpS, mvL, zp, argsP, idx, fillP, toInts, chunks, mkC, ixS, ixA, oidx, slP, sl0, slA, optL, List.append, mxF, bltn, frzA, frz, frzL, frz1, pur1, Cells.pur, PV.scal, scal1, runD, rdO, PV.ids, id1, zids, ety, Eff.on, cnd, minb, and1b, ifmax, ifmin, mxv, sugI, strv, w0, w1, w2, wm1]
        repeat' (first | apply And.intro | intro _)
        any_goals (first | (refine hK33 _ ?_; clear hK33) | (first | omega | (simp only [IntKind.wrap_i64] at *; omega) | (simp_all; done) | (simp_all; omega)))
        refine swp_block ?_
        refine swp_rf 65 [.ptr 4 0 0 1, .ptr 5 0 0 1] [(3, .ptr 0 0 0 1), (9, .ptr 2 0 0 1)] [(0, some ⟨.rows 1 [[.ro (.ints .u8 (bs ++ (aB s l k ++ wB s (l[k]?.getD []) j) ++ bitsOf bk 4))]], true, 44⟩), (1, some ⟨.rows 4 [[.int .u8 s, .int .u8 sh, .int .i64 m, .ro (.ints .i64 g)]], true, 24⟩), (2, some ⟨.rows 1 [[.int .i64 (szS s : Nat)]], true, 3⟩), (3, some ⟨.rows 2 [[.int .i64 ((l[k]?.getD [])[j]?.getD default).book, .int .i64 ((l[k]?.getD [])[j]?.getD default).len]], true, 76⟩), (4, some ⟨.rows 1 [[.int .i64 ((l[k]?.getD [])[j]?.getD default).len]], true, 3⟩), (5, some ⟨.rows 1 [[.int .i64 (moS s : Nat)]], true, 3⟩)] 7 (.tup []) [(0, some ⟨.rows 1 [[.ro (.ints .u8 (bs ++ (aB s l k ++ wB s (l[k]?.getD []) j) ++ bitsOf bk 4 ++ lfB s ln))]], true, 44⟩), (4, some ⟨.rows 1 [[.int .i64 ((ln % moS s : Nat) : Int)]], true, 3⟩)] (by simp [getT]) (by simp [getT]) (by intro q; by_cases e0 : 0 = q; (subst e0; simp [getH, hbk]); by_cases e1 : 1 = q; (subst e1; simp [getH, hbk]); by_cases e2 : 2 = q; (subst e2; simp [getH, hbk]); by_cases e3 : 3 = q; (subst e3; simp [getH, hbk]); by_cases e4 : 4 = q; (subst e4; simp [getH, hbk]); by_cases e5 : 5 = q; (subst e5; simp [getH, hbk]); simp [getH, e0, e1, e2, e3, e4, e5]) (by simp) (by simp) (fun L h1 h2 h3 h4 h5 h6 => (by have h := put_fields L h1 h2 h3 (h4.trans rfl) (h5.trans rfl) h6 s sh m g ((l[k]?.getD [])[j]?.getD default) (bs ++ (aB s l k ++ wB s (l[k]?.getD []) j) ++ bitsOf bk 4) ln (by omega) (by simp only [List.length_append]; omega); rw [← hln] at h; exact h)) ?_
        simp only [onL, nxt]
        try simp only [thn, inBlk]
        refine hK28 _ ?_; clear hK28
        refine swp_region ty_ok ?_
        try simp (maxSteps := 1000000) [runs, gd, step1, need, evu, un, opnds, opv, ev, cst, cst1, cstL, getT, getH, putT, onL, nxt, argT, cellsOf, PV.one, thn, inBlk, jmp, fldP, ldP, ldC, live, Cells.len, Cells.get, Cells.w, sug, ldv, bin, eqF, eq1, ops2, sh2, binv, Tk.agg, stC, apC, rdS, apS, cpC, cpS, mvL, zp, argsP, idx, fillP, toInts, chunks, mkC, ixS, ixA, oidx, slP, sl0, slA, optL, List.append, mxF, bltn, frzA, frz, frzL, frz1, pur1, Cells.pur, PV.scal, scal1, runD, rdO, PV.ids, id1, zids, ety, Eff.on, cnd, minb, and1b, ifmax, ifmin, mxv, sugI, strv, w0, w1, w2, wm1]
        repeat' apply And.intro
        any_goals (try omega)
        refine hL24 _ ⟨[(3, .ptr 0 0 0 1), (9, .ptr 2 0 0 1), (10, .int .i64 (moS s : Nat)), (32, .ro (.rows 1 (l.map fun w => [.ro (.rows 2 (w.map Sc.row))]))), (33, .int .i64 (l.length : Nat)), (34, .int .i64 (k : Nat)), (38, .ro (.rows 2 ((l[k]?.getD []).map Sc.row))), (39, .int .i64 ((l[k]?.getD []).length : Nat)), (40, .int .i64 ((j + 1) : Nat))], [(0, some ⟨.rows 1 [[.ro (.ints .u8 (bs ++ (aB s l k ++ wB s (l[k]?.getD []) (j + 1))))]], true, 44⟩), (1, some ⟨.rows 4 [[.int .u8 s, .int .u8 sh, .int .i64 m, .ro (.ints .i64 g)]], true, 24⟩), (2, some ⟨.rows 1 [[.int .i64 (szS s : Nat)]], true, 3⟩)], 3⟩ _ ?_ ⟨(j + 1), by (first | omega | (simp only [IntKind.wrap_i64] at *; omega) | (simp_all; done) | (simp_all; omega)), rfl, rfl⟩ ⟨by simp [getT, PV.lo, lo1, hjw], by simp [getH, Blk.lo, Cells.lo, lo1, hsc, List.append_assoc], rfl, by omega⟩
        omega
      · clear hC27
        try simp at hc27
        refine swp_exit ?_
        simp [thn, inBlk]
        refine hK21 _ ?_; clear hK21
        refine swp_region ty_ok ?_
        try simp (maxSteps := 1000000) [runs, gd, step1, need, evu, un, opnds, opv, ev, cst, cst1, cstL, getT, getH, putT, onL, nxt, argT, cellsOf, PV.one, thn, inBlk, jmp, fldP, ldP, ldC, live, Cells.len, Cells.get, Cells.w, sug, ldv, bin, eqF, eq1, ops2, sh2, binv, Tk.agg, stC, apC, rdS, apS, cpC, cpS, mvL, zp, argsP, idx, fillP, toInts, chunks, mkC, ixS, ixA, oidx, slP, sl0, slA, optL, List.append, mxF, bltn, frzA, frz, frzL, frz1, pur1, Cells.pur, PV.scal, scal1, runD, rdO, PV.ids, id1, zids, ety, Eff.on, cnd, minb, and1b, ifmax, ifmin, mxv, sugI, strv, w0, w1, w2, wm1]
        repeat' apply And.intro
        any_goals (try omega)
        refine hL17 _ ⟨[(3, .ptr 0 0 0 1), (9, .ptr 2 0 0 1), (10, .int .i64 (moS s : Nat)), (32, .ro (.rows 1 (l.map fun w => [.ro (.rows 2 (w.map Sc.row))]))), (33, .int .i64 (l.length : Nat)), (34, .int .i64 ((k + 1) : Nat))], [(0, some ⟨.rows 1 [[.ro (.ints .u8 (bs ++ aB s l (k + 1)))]], true, 44⟩), (1, some ⟨.rows 4 [[.int .u8 s, .int .u8 sh, .int .i64 m, .ro (.ints .i64 g)]], true, 24⟩), (2, some ⟨.rows 1 [[.int .i64 (szS s : Nat)]], true, 3⟩)], 3⟩ _ ?_ ⟨(k + 1), by (first | omega | (simp only [IntKind.wrap_i64] at *; omega) | (simp_all; done) | (simp_all; omega)), rfl, rfl⟩ ⟨by simp [getT, PV.lo, lo1, hkw], by (have hje : j = (l[k]?.getD []).length := (by omega); simp [getH, Blk.lo, Cells.lo, lo1, hasc, hje]), rfl, by omega⟩
        omega
    · clear hC20
      try simp at hc20
      refine swp_exit ?_
      simp [thn, inBlk]
      refine hK15 _ ?_; clear hK15
      refine swp_seq fun K35 hK35 => ?_
      refine swp_region ty_ok ?_
      try simp (maxSteps := 1000000) [runs, gd, step1, need, evu, un, opnds, opv, ev, cst, cst1, cstL, getT, getH, putT, onL, nxt, argT, cellsOf, PV.one, thn, inBlk, jmp, fldP, ldP, ldC, live, Cells.len, Cells.get, Cells.w, sug, ldv, bin, eqF, eq1, ops2, sh2, binv, Tk.agg, stC, apC, rdS, apS, cpC, cpS, mvL, zp, argsP, idx, fillP, toInts, chunks, mkC, ixS, ixA, oidx, slP, sl0, slA, optL, List.append, mxF, bltn, frzA, frz, frzL, frz1, pur1, Cells.pur, PV.scal, scal1, runD, rdO, PV.ids, id1, zids, ety, Eff.on, cnd, minb, and1b, ifmax, ifmin, mxv, sugI, strv, w0, w1, w2, wm1]
      repeat' (first | apply And.intro | intro _)
      any_goals (first | (refine hK35 _ ?_; clear hK35) | (first | omega | (simp only [IntKind.wrap_i64] at *; omega) | (simp_all; done) | (simp_all; omega)))
      refine swp_ret ?_
      simp [runs, gd, step1, need, evu, un, opnds, opv, ev, cst, cst1, cstL, getT, getH, putT, onL, nxt, argT, cellsOf, PV.one, thn, inBlk, jmp, fldP, ldP, ldC, live, Cells.len, Cells.get, Cells.w, sug, ldv, bin, eqF, eq1, ops2, sh2, binv, Tk.agg, stC, apC, rdS, apS, cpC, cpS, mvL, zp, argsP, idx, fillP, toInts, chunks, mkC, ixS, ixA, oidx, slP, sl0, slA, optL, List.append, mxF, bltn, frzA, frz, frzL, frz1, pur1, Cells.pur, PV.scal, scal1, runD, rdO, PV.ids, id1, zids, ety, Eff.on, cnd, minb, and1b, ifmax, ifmin, mxv, sugI, strv, w0, w1, w2, wm1, fnPost, Try.results29, resP, tupOf]
      have hke : k = l.length := (by omega)
      exact ⟨by rw [if_pos (by assumption), hke], by assumption⟩

end Go.Proofs.Ytkhjiabenifplaa

