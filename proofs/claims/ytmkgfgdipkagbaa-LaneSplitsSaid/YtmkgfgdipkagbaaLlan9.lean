import Derived.Test.YtmkgfgdipkagbaaWb
import Derived.Test.YtmkgfgdipkagbaaTyl
import Derived.Test.YtmkgfgdipkagbaaPvy
import Derived.Test.YtmkgfgdipkagbaaLband
import Derived.Test.YtmkgfgdipkagbaaLinfo
import Derived.Test.YtmkgfgdipkagbaaLinfo2
import Derived.Test.YtmkgfgdipkagbaaLbits
import Derived.Test.YtmkgfgdipkagbaaLtns
import Derived.Test.YtmkgfgdipkagbaaLtnp
import Derived.Test.YtmkgfgdipkagbaaLtnl
import Derived.Test.YtmkgfgdipkagbaaLlan
import Derived.Test.YtmkgfgdipkagbaaLlan2
import Derived.Test.YtmkgfgdipkagbaaLlan3
import Derived.Test.YtmkgfgdipkagbaaLlan4
import Derived.Test.YtmkgfgdipkagbaaLlan5
import Derived.Test.YtmkgfgdipkagbaaLlan6
import Derived.Test.YtmkgfgdipkagbaaLlan7
import Derived.Test.YtmkgfgdipkagbaaLlan8
namespace Go.Proofs.Ytmkgfgdipkagbaa
set_option linter.unusedVariables false
set_option linter.unusedSimpArgs false
set_option maxRecDepth 10000
open Go Go.Pv


open Go.RowKit
def spL : List Sc → Nat → Int → List Sc
  | [], _, _ => []
  | x :: r, 0, n => ⟨x.book, n⟩ :: ⟨x.book, x.len - n⟩ :: r
  | x :: r, k + 1, n => x :: spL r k n
def spR (ws : List Sc) (k : Nat) (n : Int) (i : Nat) : List Sc := if i ≤ k then spL (ws.drop i) (k - i) n else ws.drop i
theorem spR_end {ws : List Sc} {k i : Nat} {n : Int} (h : ws.length ≤ i) : spR ws k n i = [] := by
  unfold spR
  rw [List.drop_of_length_le h]
  split <;> rfl
theorem spR_ne {ws : List Sc} {k i : Nat} {n : Int} (h : i < ws.length) (hk : ¬ i = k) : spR ws k n i = (ws[i]?.getD default) :: spR ws k n (i + 1) := by
  unfold spR
  rw [List.drop_eq_getElem_cons h, List.getElem?_eq_getElem h]
  by_cases h1 : i < k
  · rw [if_pos (by omega), if_pos (by omega), show k - i = (k - (i + 1)) + 1 by omega]
    rfl
  · rw [if_neg (by omega), if_neg (by omega)]
    rfl
theorem spR_eq {ws : List Sc} {k i : Nat} {n : Int} (h : i < ws.length) (hk : i = k) : spR ws k n i = ⟨(ws[k]?.getD default).book, n⟩ :: ⟨(ws[k]?.getD default).book, (ws[k]?.getD default).len - n⟩ :: spR ws k n (i + 1) := by
  subst hk
  unfold spR
  rw [if_pos (by omega), if_neg (by omega), List.drop_eq_getElem_cons h, List.getElem?_eq_getElem h, Nat.sub_self]
  rfl
theorem spL_len : ∀ (ws : List Sc) (k : Nat) (n : Int), k < ws.length → (spL ws k n).length = ws.length + 1
  | [], k, n, h => by simp at h
  | x :: r, 0, n, h => rfl
  | x :: r, k + 1, n, h => by
    have := spL_len r k n (by simpa using h)
    simp only [spL, List.length_cons, this]
theorem spL_sum : ∀ (ws : List Sc) (k : Nat) (n : Int), ((spL ws k n).map Sc.len).sum = (ws.map Sc.len).sum
  | [], k, n => rfl
  | x :: r, 0, n => by
    simp only [spL, List.map_cons, List.sum_cons]
    omega
  | x :: r, k + 1, n => by
    have := spL_sum r k n
    simp only [spL, List.map_cons, List.sum_cons, this]
theorem spL_bad : ∀ (ws : List Sc) (k : Nat) (n : Int), (∀ x ∈ ws, badS x = false) → 0 < n → n < (ws[k]?.getD default).len → ∀ x ∈ spL ws k n, badS x = false
  | [], k, n, h, _, _, x, hx => by cases hx
  | y :: r, 0, n, h, h1, h2, x, hx => by
    have hy := badS_no (h y (by simp))
    have h2 : n < y.len := h2
    rcases List.mem_cons.1 hx with rfl | hx
    · unfold badS; simp; omega
    · rcases List.mem_cons.1 hx with rfl | hx
      · unfold badS; simp; omega
      · exact h x (by simp [hx])
  | y :: r, k + 1, n, h, h1, h2, x, hx => by
    rcases List.mem_cons.1 hx with rfl | hx
    · exact h x (by simp)
    · exact spL_bad r k n (fun z hz => h z (by simp [hz])) h1 (by simpa using h2) x hx
theorem spL_bk : ∀ (ws : List Sc) (k : Nat) (n : Int), (∀ x ∈ ws, badS x = false) → 0 < n → n < (ws[k]?.getD default).len → ∀ b, bkL (spL ws k n) b = bkL ws b
  | [], k, n, h, _, _, b => rfl
  | y :: r, 0, n, h, h1, h2, b => by
    have hy := badS_no (h y (by simp))
    have h2 : n < y.len := h2
    have e1 : bkL (y :: r) b = if y.len < 1 then bkL r b else if b < y.len then (y.book, 0) else bkL r (b - y.len) := rfl
    have e2 : bkL (spL (y :: r) 0 n) b = if n < 1 then bkL (⟨y.book, y.len - n⟩ :: r) b else if b < n then (y.book, 0) else if y.len - n < 1 then bkL r (b - n) else if b - n < y.len - n then (y.book, 0) else bkL r (b - n - (y.len - n)) := rfl
    rw [e1, e2]
    rw [if_neg (show ¬ n < 1 by omega)]
    by_cases c1 : b < n
    · rw [if_pos c1, if_neg (show ¬ y.len < 1 by omega), if_pos (show b < y.len by omega)]
    · rw [if_neg c1, if_neg (show ¬ y.len - n < 1 by omega), if_neg (show ¬ y.len < 1 by omega)]
      by_cases c2 : b < y.len
      · rw [if_pos (show b - n < y.len - n by omega), if_pos c2]
      · rw [if_neg (show ¬ b - n < y.len - n by omega), if_neg c2]
        congr 1
        omega
  | y :: r, k + 1, n, h, h1, h2, b => by
    simp only [spL, bkL]
    rw [spL_bk r k n (fun z hz => h z (by simp [hz])) h1 (by simpa using h2), spL_bk r k n (fun z hz => h z (by simp [hz])) h1 (by simpa using h2)]
theorem len_sum : ∀ (ws : List Sc), (∀ x ∈ ws, badS x = false) → (ws.length : Int) ≤ (ws.map Sc.len).sum
  | [], _ => by simp
  | x :: r, h => by
    have h1 := badS_no (h x (by simp))
    have h2 := len_sum r fun y hy => h y (by simp [hy])
    simp only [List.length_cons, List.map_cons, List.sum_cons]
    omega
theorem rowZ_cg {se se' : List (List Sc)} (h : ∀ a b, bkG se' a b = bkG se a b) (gi : Int) : ∀ (l : List Int) (b : Int) (z : Zs), rowZ se' gi l b z = rowZ se gi l b z
  | [], b, z => rfl
  | n :: r, b, z => by
    rw [rowZ, rowZ, h]
    congr 1
    funext y
    exact rowZ_cg h gi r (b + 1) y
theorem allZ_cg {se se' : List (List Sc)} (h : ∀ a b, bkG se' a b = bkG se a b) (m : Int) : ∀ (l : List (List Int)) (a : Int) (z : Zs), allZ se' m l a z = allZ se m l a z
  | [], a, z => rfl
  | row :: r, a, z => by
    rw [allZ, allZ, rowZ_cg h]
    split
    · congr 1
      funext y
      exact allZ_cg h m r (a + 1) y
    · rfl
theorem linB_cg {O : List Int} {se se' : List (List Sc)} {m : Int} {g ln : List Int} {n wd : Nat} (h : ∀ a b, bkG se' a b = bkG se a b) : linB O se' m g ln n wd = linB O se m g ln n wd := by
  have h1 : ∀ gi i v, okV O se' m gi i v = okV O se m gi i v := fun gi i v => by
    have : bkA O se' m gi i = bkA O se m gi i := by
      unfold bkA
      rw [h]
    unfold okV
    rw [this]
  unfold linB linW
  simp only [h1]
theorem chL_cg {rate ga s sh m : Int} {g : List Int} {se se' : List (List Sc)} {st : List (List Int)} {tn : List (List Fl)} {ln : List Int} (h : ∀ a b, bkG se' a b = bkG se a b) (hz : chL rate ga s sh m g se st tn ln = 0) (hs : secB m g se' = true) : chL rate ga s sh m g se' st tn ln = 0 := by
  obtain ⟨h1, h2, h3, h4, h5, h6⟩ := chL_zero hz
  have k4 : stpB ga m g se' st = true := by
    unfold stpB at h4 ⊢
    rw [allZ_cg h]
    exact h4
  have k6 : linC rate s m g se' ln = true := by
    unfold linC at h6 ⊢
    rw [linB_cg h, linB_cg h]
    exact h6
  unfold chL
  rw [if_pos h1, if_pos ⟨by rw [decide_eq_true h2.1, decide_eq_true h2.2]; rfl, hs, k4, h5, k6⟩]
structure SpOk (rate m : Int) (g : List Int) (se : List (List Sc)) (gi : Nat) (ws' : List Sc) : Prop where
  len : (se.set gi ws').length = se.length
  at_ : (se.set gi ws')[gi]?.getD [] = ws'
  bk : ∀ a b, bkG (se.set gi ws') a b = bkG se a b
  sec : secB m g (se.set gi ws') = true
  sm : ∀ w ∈ se.set gi ws', w.length ≤ 1000
  ne : ¬ se.set gi ws' = se
theorem sp_ok {rate ga s sh m : Int} {g : List Int} {se : List (List Sc)} {st : List (List Int)} {tn : List (List Fl)} {ln : List Int} (hz : chL rate ga s sh m g se st tn ln = 0) {gi k : Nat} {n : Int} {ws : List Sc} (hg : gi < se.length) (hws : se[gi]?.getD [] = ws) (hk : k < ws.length) (h1 : 0 < n) (h2 : n < (ws[k]?.getD default).len) : SpOk rate m g se gi (spL ws k n) := by
  obtain ⟨hi, _, h3, _, _, _⟩ := chL_zero hz
  obtain ⟨hse, hw⟩ := secB_true h3
  obtain ⟨_, _, _, hm0, hmM, _, _, _⟩ := chI_zero hi
  have hM := MB40 rate (decide (s = 2))
  have hmem : ws ∈ se := by rw [← hws]; exact mem_at (w := se) hg
  obtain ⟨w1, w2, w3⟩ := hw ws hmem
  have hb := spL_bad ws k n w1 h1 h2
  have hs := spL_sum ws k n
  have hll := len_sum _ hb
  have hlen := spL_len ws k n hk
  have hin : ∀ w ∈ se.set gi (spL ws k n), w ∈ se ∨ w = spL ws k n := fun w h => List.mem_or_eq_of_mem_set h
  have hat : ∀ j, (se.set gi (spL ws k n))[j]?.getD [] = if gi = j then spL ws k n else se[j]?.getD [] := fun j => by
    rw [set_at]
    by_cases hj : gi = j
    · rw [if_pos ⟨hj, by omega⟩, if_pos hj]
    · rw [if_neg (fun h => hj h.1), if_neg hj]
  refine ⟨List.length_set, ?_, fun a b => ?_, ?_, fun w h => ?_, fun he => ?_⟩
  · rw [hat, if_pos rfl]
  · unfold bkG
    rw [List.length_set]
    split
    · rfl
    · rw [hat]
      split
      · next hh =>
        rw [← hh, hws]
        exact spL_bk ws k n w1 h1 h2 b
      · rfl
  · refine secB_all (k := se.length) (by rw [List.length_set]; exact hse) (by rw [List.length_set]; exact Nat.le_refl _) fun i hi => ?_
    rw [hat]
    split
    · refine secL_yes (Nat.le_refl _) (fun i hi => hb _ (mem_at (w := spL ws k n) hi)) ?_ (by omega)
      rw [lenS_full, hs]
      exact w2
    · obtain ⟨v1, v2, v3⟩ := hw _ (mem_at (w := se) (j := i) hi)
      refine secL_yes (Nat.le_refl _) (fun j hj => v1 _ (mem_at (w := (se[i]?.getD [])) hj)) ?_ v3
      rw [lenS_full]
      exact v2
  · rcases hin w h with h | h
    · have := (hw w h).2.2; omega
    · rw [h, hlen]; omega
  · have := congrArg (fun l => (l[gi]?.getD []).length) he
    simp only [hat, if_true] at this
    rw [hlen, hws] at this
    omega
theorem same_no {a b c d e f : Bool} (he : e = false) : (a && b && c && (e && f) && d) = false := by
  subst he
  simp

set_option maxHeartbeats 8000000 in
theorem reedpipelaw18_LaneSplits_ok (rate : Int) (ga s sh m : Int) (g : List Int) (se : List (List Sc)) (st : List (List Int)) (tn : List (List Fl)) (ln : List Int) (gp ap cp : Int) (hgp : 0 ≤ gp ∧ gp ≤ 255) (hap : 0 ≤ ap ∧ ap ≤ 255) (hcp : 0 ≤ cp ∧ cp ≤ 255) (gi ki ni : Int) (ws : List Sc) (hgi : gp.tmod (se.length : Nat) = gi) (hws : se[gi.toNat]?.getD [] = ws) (hki : ap.tmod (ws.length : Nat) = ki) (hni : cp.tmod (ws[ki.toNat]?.getD default).len = ni) : PCall Try.prog 13 [.int .i64 rate, .agg [.int .i64 ga, .int .u8 s, .int .u8 sh, .int .i64 m, .ro (.ints .i64 g), .ro (.rows 1 (se.map fun w => [.ro (.rows 2 (w.map Sc.row))])), .ro (.rows 1 (st.map fun w => [.ro (.ints .i64 w)])), .ro (.rows 1 (tn.map fun w => [.ro (.rows 5 (w.map Fl.row))])), .ro (.ints .i64 ln)], .int .u8 gp, .int .u8 ap, .int .u8 cp] (.bool true) := by
  have hspl : (spL ws ki.toNat ni).length = (spL ws ki.toNat ni).length := rfl
  refine pcall_body ty_ok Try.func13 rfl (by rfl) (by simp) ?_
  rw [Try.ntmps13]
  refine swp_seq fun K1 hK1 => ?_
  refine swp_region ty_ok ?_
  try simp (maxSteps := 1000000) [runs, gd, step1, need, evu, un, opnds, opv, ev, cst, cst1, cstL, getT, getH, putT, onL, nxt, argT, cellsOf, PV.one, thn, inBlk, jmp, fldP, ldP, ldC, live, Cells.len, Cells.get, Cells.w, sug, ldv, bin, eqF, eq1, ops2, sh2, binv, Tk.agg, stC, apC, rdS, apS, mvL, zp, argsP, idx, fillP, toInts, chunks, mkC, ixS, ixA, oidx, slP, sl0, mxF, bltn, frzA, frz, frzL, frz1, pur1, Cells.pur, PV.scal, scal1, runD, rdO, PV.ids, id1, zids, ety, Eff.on, cnd, minb, and1b, ifmax, ifmin, mxv, sugI, strv, w0, w1, w2, wm1, hspl]
  repeat' (first | apply And.intro | intro _)
  any_goals (first | (refine hK1 _ ?_; clear hK1) | (first | omega | (simp only [IntKind.wrap_i64] at *; omega) | (simp_all; done) | (simp_all; omega)))
  refine swp_seq fun K2 hK2 => ?_
  refine swp_region ty_ok ?_
  refine runs_cut 1 fun R3 hR3 => ?_
  try simp (maxSteps := 1000000) [runs, gd, step1, need, evu, un, opnds, opv, ev, cst, cst1, cstL, getT, getH, putT, onL, nxt, argT, cellsOf, PV.one, thn, inBlk, jmp, fldP, ldP, ldC, live, Cells.len, Cells.get, Cells.w, sug, ldv, bin, eqF, eq1, ops2, sh2, binv, Tk.agg, stC, apC, rdS, apS, mvL, zp, argsP, idx, fillP, toInts, chunks, mkC, ixS, ixA, oidx, slP, sl0, mxF, bltn, frzA, frz, frzL, frz1, pur1, Cells.pur, PV.scal, scal1, runD, rdO, PV.ids, id1, zids, ety, Eff.on, cnd, minb, and1b, ifmax, ifmin, mxv, sugI, strv, w0, w1, w2, wm1, hspl, List.take_succ_cons, List.take_zero, List.drop_succ_cons, List.drop_zero]
  refine .inl ⟨_, lalive, ?_⟩
  try simp (maxSteps := 1000000) [runs, gd, step1, need, evu, un, opnds, opv, ev, cst, cst1, cstL, getT, getH, putT, onL, nxt, argT, cellsOf, PV.one, thn, inBlk, jmp, fldP, ldP, ldC, live, Cells.len, Cells.get, Cells.w, sug, ldv, bin, eqF, eq1, ops2, sh2, binv, Tk.agg, stC, apC, rdS, apS, mvL, zp, argsP, idx, fillP, toInts, chunks, mkC, ixS, ixA, oidx, slP, sl0, mxF, bltn, frzA, frz, frzL, frz1, pur1, Cells.pur, PV.scal, scal1, runD, rdO, PV.ids, id1, zids, ety, Eff.on, cnd, minb, and1b, ifmax, ifmin, mxv, sugI, strv, w0, w1, w2, wm1, hspl]
  repeat' (first | apply And.intro | intro _)
  any_goals (first | (refine hR3 _ ?_; clear hR3) | (first | omega | (simp only [IntKind.wrap_i64] at *; omega) | (simp_all; done) | (simp_all; omega)))
  try simp (maxSteps := 1000000) [runs, gd, step1, need, evu, un, opnds, opv, ev, cst, cst1, cstL, getT, getH, putT, onL, nxt, argT, cellsOf, PV.one, thn, inBlk, jmp, fldP, ldP, ldC, live, Cells.len, Cells.get, Cells.w, sug, ldv, bin, eqF, eq1, ops2, sh2, binv, Tk.agg, stC, apC, rdS, apS, mvL, zp, argsP, idx, fillP, toInts, chunks, mkC, ixS, ixA, oidx, slP, sl0, mxF, bltn, frzA, frz, frzL, frz1, pur1, Cells.pur, PV.scal, scal1, runD, rdO, PV.ids, id1, zids, ety, Eff.on, cnd, minb, and1b, ifmax, ifmin, mxv, sugI, strv, w0, w1, w2, wm1, hspl, List.take_succ_cons, List.take_zero, List.drop_succ_cons, List.drop_zero]
  repeat' (first | apply And.intro | intro _)
  any_goals (first | (refine hK2 _ ?_; clear hK2) | (first | omega | (simp only [IntKind.wrap_i64] at *; omega) | (simp_all; done) | (simp_all; omega)))
  refine swp_seq fun K4 hK4 => ?_
  refine swp_seq fun K5 hK5 => ?_
  refine swp_region ty_ok ?_
  refine runs_cut 1 fun R6 hR6 => ?_
  try simp (maxSteps := 1000000) [runs, gd, step1, need, evu, un, opnds, opv, ev, cst, cst1, cstL, getT, getH, putT, onL, nxt, argT, cellsOf, PV.one, thn, inBlk, jmp, fldP, ldP, ldC, live, Cells.len, Cells.get, Cells.w, sug, ldv, bin, eqF, eq1, ops2, sh2, binv, Tk.agg, stC, apC, rdS, apS, mvL, zp, argsP, idx, fillP, toInts, chunks, mkC, ixS, ixA, oidx, slP, sl0, mxF, bltn, frzA, frz, frzL, frz1, pur1, Cells.pur, PV.scal, scal1, runD, rdO, PV.ids, id1, zids, ety, Eff.on, cnd, minb, and1b, ifmax, ifmin, mxv, sugI, strv, w0, w1, w2, wm1, hspl, List.take_succ_cons, List.take_zero, List.drop_succ_cons, List.drop_zero]
  repeat' (first | apply And.intro | intro _)
  any_goals (first | (refine hR6 _ ?_; clear hR6) | (first | omega | (simp only [IntKind.wrap_i64] at *; omega) | (simp_all; done) | (simp_all; omega)))
  refine runs_cut 1 fun R7 hR7 => ?_
  try simp (maxSteps := 1000000) [runs, gd, step1, need, evu, un, opnds, opv, ev, cst, cst1, cstL, getT, getH, putT, onL, nxt, argT, cellsOf, PV.one, thn, inBlk, jmp, fldP, ldP, ldC, live, Cells.len, Cells.get, Cells.w, sug, ldv, bin, eqF, eq1, ops2, sh2, binv, Tk.agg, stC, apC, rdS, apS, mvL, zp, argsP, idx, fillP, toInts, chunks, mkC, ixS, ixA, oidx, slP, sl0, mxF, bltn, frzA, frz, frzL, frz1, pur1, Cells.pur, PV.scal, scal1, runD, rdO, PV.ids, id1, zids, ety, Eff.on, cnd, minb, and1b, ifmax, ifmin, mxv, sugI, strv, w0, w1, w2, wm1, hspl, List.take_succ_cons, List.take_zero, List.drop_succ_cons, List.drop_zero]
  refine .inl ⟨_, reedpiperef18_Great_ok ga s sh m g se st tn ln, ?_⟩
  try simp (maxSteps := 1000000) [runs, gd, step1, need, evu, un, opnds, opv, ev, cst, cst1, cstL, getT, getH, putT, onL, nxt, argT, cellsOf, PV.one, thn, inBlk, jmp, fldP, ldP, ldC, live, Cells.len, Cells.get, Cells.w, sug, ldv, bin, eqF, eq1, ops2, sh2, binv, Tk.agg, stC, apC, rdS, apS, mvL, zp, argsP, idx, fillP, toInts, chunks, mkC, ixS, ixA, oidx, slP, sl0, mxF, bltn, frzA, frz, frzL, frz1, pur1, Cells.pur, PV.scal, scal1, runD, rdO, PV.ids, id1, zids, ety, Eff.on, cnd, minb, and1b, ifmax, ifmin, mxv, sugI, strv, w0, w1, w2, wm1, hspl]
  repeat' (first | apply And.intro | intro _)
  any_goals (first | (refine hR7 _ ?_; clear hR7) | (first | omega | (simp only [IntKind.wrap_i64] at *; omega) | (simp_all; done) | (simp_all; omega)))
  refine runs_cut 3 fun R8 hR8 => ?_
  try simp (maxSteps := 1000000) [runs, gd, step1, need, evu, un, opnds, opv, ev, cst, cst1, cstL, getT, getH, putT, onL, nxt, argT, cellsOf, PV.one, thn, inBlk, jmp, fldP, ldP, ldC, live, Cells.len, Cells.get, Cells.w, sug, ldv, bin, eqF, eq1, ops2, sh2, binv, Tk.agg, stC, apC, rdS, apS, mvL, zp, argsP, idx, fillP, toInts, chunks, mkC, ixS, ixA, oidx, slP, sl0, mxF, bltn, frzA, frz, frzL, frz1, pur1, Cells.pur, PV.scal, scal1, runD, rdO, PV.ids, id1, zids, ety, Eff.on, cnd, minb, and1b, ifmax, ifmin, mxv, sugI, strv, w0, w1, w2, wm1, hspl, List.take_succ_cons, List.take_zero, List.drop_succ_cons, List.drop_zero]
  repeat' (first | apply And.intro | intro _)
  any_goals (first | (refine hR8 _ ?_; clear hR8) | (first | omega | (simp only [IntKind.wrap_i64] at *; omega) | (simp_all; done) | (simp_all; omega)))
  refine runs_cut 1 fun R9 hR9 => ?_
  try simp (maxSteps := 1000000) [runs, gd, step1, need, evu, un, opnds, opv, ev, cst, cst1, cstL, getT, getH, putT, onL, nxt, argT, cellsOf, PV.one, thn, inBlk, jmp, fldP, ldP, ldC, live, Cells.len, Cells.get, Cells.w, sug, ldv, bin, eqF, eq1, ops2, sh2, binv, Tk.agg, stC, apC, rdS, apS, mvL, zp, argsP, idx, fillP, toInts, chunks, mkC, ixS, ixA, oidx, slP, sl0, mxF, bltn, frzA, frz, frzL, frz1, pur1, Cells.pur, PV.scal, scal1, runD, rdO, PV.ids, id1, zids, ety, Eff.on, cnd, minb, and1b, ifmax, ifmin, mxv, sugI, strv, w0, w1, w2, wm1, hspl, List.take_succ_cons, List.take_zero, List.drop_succ_cons, List.drop_zero]
  refine .inl ⟨_, by (intros; exact Or.inl (lane_Check_ok rate ga s sh m g se st tn ln (gr_len (ln := ln) (by simp_all)))), ?_⟩
  repeat' (first | apply And.intro | intro _)
  any_goals (first | (refine hR9 _ ?_; clear hR9) | (first | omega | (simp only [IntKind.wrap_i64] at *; omega) | (simp_all; done) | (simp_all; omega)))
  try simp (maxSteps := 1000000) [runs, gd, step1, need, evu, un, opnds, opv, ev, cst, cst1, cstL, getT, getH, putT, onL, nxt, argT, cellsOf, PV.one, thn, inBlk, jmp, fldP, ldP, ldC, live, Cells.len, Cells.get, Cells.w, sug, ldv, bin, eqF, eq1, ops2, sh2, binv, Tk.agg, stC, apC, rdS, apS, mvL, zp, argsP, idx, fillP, toInts, chunks, mkC, ixS, ixA, oidx, slP, sl0, mxF, bltn, frzA, frz, frzL, frz1, pur1, Cells.pur, PV.scal, scal1, runD, rdO, PV.ids, id1, zids, ety, Eff.on, cnd, minb, and1b, ifmax, ifmin, mxv, sugI, strv, w0, w1, w2, wm1, hspl, List.take_succ_cons, List.take_zero, List.drop_succ_cons, List.drop_zero]
  repeat' (first | apply And.intro | intro _)
  any_goals (first | (refine hK5 _ ?_; clear hK5) | (first | omega | (simp only [IntKind.wrap_i64] at *; omega) | (simp_all; done) | (simp_all; omega)))
  refine swp_if fun C10 hC10 => ?_
  try simp (maxSteps := 1000000) [runs, gd, step1, need, evu, un, opnds, opv, ev, cst, cst1, cstL, getT, getH, putT, onL, nxt, argT, cellsOf, PV.one, thn, inBlk, jmp, fldP, ldP, ldC, live, Cells.len, Cells.get, Cells.w, sug, ldv, bin, eqF, eq1, ops2, sh2, binv, Tk.agg, stC, apC, rdS, apS, mvL, zp, argsP, idx, fillP, toInts, chunks, mkC, ixS, ixA, oidx, slP, sl0, mxF, bltn, frzA, frz, frzL, frz1, pur1, Cells.pur, PV.scal, scal1, runD, rdO, PV.ids, id1, zids, ety, Eff.on, cnd, minb, and1b, ifmax, ifmin, mxv, sugI, strv, w0, w1, w2, wm1, hspl]
  refine hC10 _ (fun hc10 => ?_) (fun hc10 => ?_)
  · clear hC10
    try simp at hc10
    refine swp_seq fun K11 hK11 => ?_
    refine swp_region ty_ok ?_
    try simp (maxSteps := 1000000) [runs, gd, step1, need, evu, un, opnds, opv, ev, cst, cst1, cstL, getT, getH, putT, onL, nxt, argT, cellsOf, PV.one, thn, inBlk, jmp, fldP, ldP, ldC, live, Cells.len, Cells.get, Cells.w, sug, ldv, bin, eqF, eq1, ops2, sh2, binv, Tk.agg, stC, apC, rdS, apS, mvL, zp, argsP, idx, fillP, toInts, chunks, mkC, ixS, ixA, oidx, slP, sl0, mxF, bltn, frzA, frz, frzL, frz1, pur1, Cells.pur, PV.scal, scal1, runD, rdO, PV.ids, id1, zids, ety, Eff.on, cnd, minb, and1b, ifmax, ifmin, mxv, sugI, strv, w0, w1, w2, wm1, hspl]
    repeat' (first | apply And.intro | intro _)
    any_goals (first | (refine hK11 _ ?_; clear hK11) | (first | omega | (simp only [IntKind.wrap_i64] at *; omega) | (simp_all; done) | (simp_all; omega)))
    refine swp_ret ?_
    simp [runs, gd, step1, need, evu, un, opnds, opv, ev, cst, cst1, cstL, getT, getH, putT, onL, nxt, argT, cellsOf, PV.one, thn, inBlk, jmp, fldP, ldP, ldC, live, Cells.len, Cells.get, Cells.w, sug, ldv, bin, eqF, eq1, ops2, sh2, binv, Tk.agg, stC, apC, rdS, apS, mvL, zp, argsP, idx, fillP, toInts, chunks, mkC, ixS, ixA, oidx, slP, sl0, mxF, bltn, frzA, frz, frzL, frz1, pur1, Cells.pur, PV.scal, scal1, runD, rdO, PV.ids, id1, zids, ety, Eff.on, cnd, minb, and1b, ifmax, ifmin, mxv, sugI, strv, w0, w1, w2, wm1, fnPost, Try.results13, resP, tupOf]
  · clear hC10
    try simp at hc10
    refine swp_skip ?_
    simp only [thn, inBlk]
    refine hK4 _ ?_; clear hK4
    refine swp_seq fun K12 hK12 => ?_
    have hgr : grC g se st tn ln = false := (by have h := hc10; simp_all)
    have hz : chL rate ga s sh m g se st tn ln = 0 := (by have h := hc10; simp_all)
    have hG := good_of hz
    have hLk := gr_len hgr
    have hLk2 := hLk
    obtain ⟨⟨hl1, hl2, hl3, hl4⟩, hl5, hl6, hl7⟩ := hLk2
    have hG1 := hG.gl
    have hG2 := hG.sl
    obtain ⟨hm0, hmM⟩ := hG.mb
    have hlnl : ln.length ≤ 1000000 := by have := (grC_no hgr).2.2.2.2.1; omega
    obtain ⟨gt1, gt2⟩ := tmod_bd (a := gp) (b := (se.length : Nat)) hgp.1 (by omega)
    rw [hgi] at gt1 gt2
    have hgw : IntKind.i64.wrap gp = gp := w64 (by omega)
    have hmem : ws ∈ se := by rw [← hws]; exact mem_at (w := se) (by omega)
    have hwl : ws.length ≤ 40 := hG.wl _ hmem
    have hbd := hG.pos _ hmem
    have hsum := hG.sum _ hmem
    have hrowS : (Option.map (fun w => [PV.ro (.rows 2 (w.map Sc.row))]) se[gi.toNat]?).getD [] = [.ro (.rows 2 (ws.map Sc.row))] := by rw [s_at (l := se) (k := gi.toNat) (by omega), hws]
    refine swp_region ty_ok ?_
    try simp (maxSteps := 1000000) [runs, gd, step1, need, evu, un, opnds, opv, ev, cst, cst1, cstL, getT, getH, putT, onL, nxt, argT, cellsOf, PV.one, thn, inBlk, jmp, fldP, ldP, ldC, live, Cells.len, Cells.get, Cells.w, sug, ldv, bin, eqF, eq1, ops2, sh2, binv, Tk.agg, stC, apC, rdS, apS, mvL, zp, argsP, idx, fillP, toInts, chunks, mkC, ixS, ixA, oidx, slP, sl0, mxF, bltn, frzA, frz, frzL, frz1, pur1, Cells.pur, PV.scal, scal1, runD, rdO, PV.ids, id1, zids, ety, Eff.on, cnd, minb, and1b, ifmax, ifmin, mxv, sugI, strv, w0, w1, w2, wm1, hspl, hgw, hgi]
    repeat' (first | apply And.intro | intro _)
    any_goals (first | (refine hK12 _ ?_; clear hK12) | (first | omega | (simp only [IntKind.wrap_i64] at *; omega) | (simp_all; done) | (simp_all; omega)))
    refine swp_seq fun K13 hK13 => ?_
    refine swp_seq fun K14 hK14 => ?_
    refine swp_region ty_ok ?_
    try simp (maxSteps := 1000000) [runs, gd, step1, need, evu, un, opnds, opv, ev, cst, cst1, cstL, getT, getH, putT, onL, nxt, argT, cellsOf, PV.one, thn, inBlk, jmp, fldP, ldP, ldC, live, Cells.len, Cells.get, Cells.w, sug, ldv, bin, eqF, eq1, ops2, sh2, binv, Tk.agg, stC, apC, rdS, apS, mvL, zp, argsP, idx, fillP, toInts, chunks, mkC, ixS, ixA, oidx, slP, sl0, mxF, bltn, frzA, frz, frzL, frz1, pur1, Cells.pur, PV.scal, scal1, runD, rdO, PV.ids, id1, zids, ety, Eff.on, cnd, minb, and1b, ifmax, ifmin, mxv, sugI, strv, w0, w1, w2, wm1, hspl, hrowS]
    repeat' (first | apply And.intro | intro _)
    any_goals (first | (refine hK14 _ ?_; clear hK14) | (first | omega | (simp only [IntKind.wrap_i64] at *; omega) | (simp_all; done) | (simp_all; omega)))
    refine swp_if fun C15 hC15 => ?_
    try simp (maxSteps := 1000000) [runs, gd, step1, need, evu, un, opnds, opv, ev, cst, cst1, cstL, getT, getH, putT, onL, nxt, argT, cellsOf, PV.one, thn, inBlk, jmp, fldP, ldP, ldC, live, Cells.len, Cells.get, Cells.w, sug, ldv, bin, eqF, eq1, ops2, sh2, binv, Tk.agg, stC, apC, rdS, apS, mvL, zp, argsP, idx, fillP, toInts, chunks, mkC, ixS, ixA, oidx, slP, sl0, mxF, bltn, frzA, frz, frzL, frz1, pur1, Cells.pur, PV.scal, scal1, runD, rdO, PV.ids, id1, zids, ety, Eff.on, cnd, minb, and1b, ifmax, ifmin, mxv, sugI, strv, w0, w1, w2, wm1, hspl, hrowS]
    refine hC15 _ (fun hc15 => ?_) (fun hc15 => ?_)
    · clear hC15
      try simp at hc15
      refine swp_seq fun K16 hK16 => ?_
      refine swp_region ty_ok ?_
      try simp (maxSteps := 1000000) [runs, gd, step1, need, evu, un, opnds, opv, ev, cst, cst1, cstL, getT, getH, putT, onL, nxt, argT, cellsOf, PV.one, thn, inBlk, jmp, fldP, ldP, ldC, live, Cells.len, Cells.get, Cells.w, sug, ldv, bin, eqF, eq1, ops2, sh2, binv, Tk.agg, stC, apC, rdS, apS, mvL, zp, argsP, idx, fillP, toInts, chunks, mkC, ixS, ixA, oidx, slP, sl0, mxF, bltn, frzA, frz, frzL, frz1, pur1, Cells.pur, PV.scal, scal1, runD, rdO, PV.ids, id1, zids, ety, Eff.on, cnd, minb, and1b, ifmax, ifmin, mxv, sugI, strv, w0, w1, w2, wm1, hspl]
      repeat' (first | apply And.intro | intro _)
      any_goals (first | (refine hK16 _ ?_; clear hK16) | (first | omega | (simp only [IntKind.wrap_i64] at *; omega) | (simp_all; done) | (simp_all; omega)))
      refine swp_ret ?_
      simp [runs, gd, step1, need, evu, un, opnds, opv, ev, cst, cst1, cstL, getT, getH, putT, onL, nxt, argT, cellsOf, PV.one, thn, inBlk, jmp, fldP, ldP, ldC, live, Cells.len, Cells.get, Cells.w, sug, ldv, bin, eqF, eq1, ops2, sh2, binv, Tk.agg, stC, apC, rdS, apS, mvL, zp, argsP, idx, fillP, toInts, chunks, mkC, ixS, ixA, oidx, slP, sl0, mxF, bltn, frzA, frz, frzL, frz1, pur1, Cells.pur, PV.scal, scal1, runD, rdO, PV.ids, id1, zids, ety, Eff.on, cnd, minb, and1b, ifmax, ifmin, mxv, sugI, strv, w0, w1, w2, wm1, fnPost, Try.results13, resP, tupOf]
      have h0 : ws = [] := (by have h := hc15; simpa using h)
      subst h0
      have : lenS [] 0 = m := hsum
      rw [← this]
      rfl
    · clear hC15
      try simp at hc15
      refine swp_skip ?_
      simp only [thn, inBlk]
      refine hK13 _ ?_; clear hK13
      refine swp_seq fun K17 hK17 => ?_
      have hwp : 1 ≤ ws.length := (by have h := hc15; cases ws with | nil => simp at h | cons => simp)
      obtain ⟨at1, at2⟩ := tmod_bd (a := ap) (b := (ws.length : Nat)) hap.1 (by omega)
      rw [hki] at at1 at2
      have haw : IntKind.i64.wrap ap = ap := w64 (by omega)
      have hrk := sc_at (ws := ws) (k := ki.toNat) (by omega)
      have hbk := badS_no (hbd _ (mem_at (w := ws) (j := ki.toNat) (by omega)))
      have hbk2 : (1 ≤ (ws[ki.toNat]?.getD default).len ∧ (ws[ki.toNat]?.getD default).len ≤ 40) := hbk.1
      have hcw : IntKind.i64.wrap cp = cp := w64 (by omega)
      obtain ⟨ct1, ct2⟩ := tmod_bd (a := cp) (b := (ws[ki.toNat]?.getD default).len) hcp.1 (by omega)
      rw [hni] at ct1 ct2
      refine swp_region ty_ok ?_
      try simp (maxSteps := 1000000) [runs, gd, step1, need, evu, un, opnds, opv, ev, cst, cst1, cstL, getT, getH, putT, onL, nxt, argT, cellsOf, PV.one, thn, inBlk, jmp, fldP, ldP, ldC, live, Cells.len, Cells.get, Cells.w, sug, ldv, bin, eqF, eq1, ops2, sh2, binv, Tk.agg, stC, apC, rdS, apS, mvL, zp, argsP, idx, fillP, toInts, chunks, mkC, ixS, ixA, oidx, slP, sl0, mxF, bltn, frzA, frz, frzL, frz1, pur1, Cells.pur, PV.scal, scal1, runD, rdO, PV.ids, id1, zids, ety, Eff.on, cnd, minb, and1b, ifmax, ifmin, mxv, sugI, strv, w0, w1, w2, wm1, hspl, haw, hrowS, hki]
      repeat' (first | apply And.intro | intro _)
      any_goals (first | (refine hK17 _ ?_; clear hK17) | (first | omega | (simp only [IntKind.wrap_i64] at *; omega) | (simp_all; done) | (simp_all; omega)))
      refine swp_seq fun K18 hK18 => ?_
      refine swp_region ty_ok ?_
      try simp (maxSteps := 1000000) [runs, gd, step1, need, evu, un, opnds, opv, ev, cst, cst1, cstL, getT, getH, putT, onL, nxt, argT, cellsOf, PV.one, thn, inBlk, jmp, fldP, ldP, ldC, live, Cells.len, Cells.get, Cells.w, sug, ldv, bin, eqF, eq1, ops2, sh2, binv, Tk.agg, stC, apC, rdS, apS, mvL, zp, argsP, idx, fillP, toInts, chunks, mkC, ixS, ixA, oidx, slP, sl0, mxF, bltn, frzA, frz, frzL, frz1, pur1, Cells.pur, PV.scal, scal1, runD, rdO, PV.ids, id1, zids, ety, Eff.on, cnd, minb, and1b, ifmax, ifmin, mxv, sugI, strv, w0, w1, w2, wm1, hspl, hrowS, hrk]
      repeat' (first | apply And.intro | intro _)
      any_goals (first | (refine hK18 _ ?_; clear hK18) | (first | omega | (simp only [IntKind.wrap_i64] at *; omega) | (simp_all; done) | (simp_all; omega)))
      refine swp_seq fun K19 hK19 => ?_
      refine swp_region ty_ok ?_
      try simp (maxSteps := 1000000) [runs, gd, step1, need, evu, un, opnds, opv, ev, cst, cst1, cstL, getT, getH, putT, onL, nxt, argT, cellsOf, PV.one, thn, inBlk, jmp, fldP, ldP, ldC, live, Cells.len, Cells.get, Cells.w, sug, ldv, bin, eqF, eq1, ops2, sh2, binv, Tk.agg, stC, apC, rdS, apS, mvL, zp, argsP, idx, fillP, toInts, chunks, mkC, ixS, ixA, oidx, slP, sl0, mxF, bltn, frzA, frz, frzL, frz1, pur1, Cells.pur, PV.scal, scal1, runD, rdO, PV.ids, id1, zids, ety, Eff.on, cnd, minb, and1b, ifmax, ifmin, mxv, sugI, strv, w0, w1, w2, wm1, hspl, hcw, hni]
      repeat' (first | apply And.intro | intro _)
      any_goals (first | (refine hK19 _ ?_; clear hK19) | (first | omega | (simp only [IntKind.wrap_i64] at *; omega) | (simp_all; done) | (simp_all; omega)))
      refine swp_seq fun K20 hK20 => ?_
      refine swp_seq fun K21 hK21 => ?_
      refine swp_region ty_ok ?_
      try simp (maxSteps := 1000000) [runs, gd, step1, need, evu, un, opnds, opv, ev, cst, cst1, cstL, getT, getH, putT, onL, nxt, argT, cellsOf, PV.one, thn, inBlk, jmp, fldP, ldP, ldC, live, Cells.len, Cells.get, Cells.w, sug, ldv, bin, eqF, eq1, ops2, sh2, binv, Tk.agg, stC, apC, rdS, apS, mvL, zp, argsP, idx, fillP, toInts, chunks, mkC, ixS, ixA, oidx, slP, sl0, mxF, bltn, frzA, frz, frzL, frz1, pur1, Cells.pur, PV.scal, scal1, runD, rdO, PV.ids, id1, zids, ety, Eff.on, cnd, minb, and1b, ifmax, ifmin, mxv, sugI, strv, w0, w1, w2, wm1, hspl]
      repeat' (first | apply And.intro | intro _)
      any_goals (first | (refine hK21 _ ?_; clear hK21) | (first | omega | (simp only [IntKind.wrap_i64] at *; omega) | (simp_all; done) | (simp_all; omega)))
      refine swp_if fun C22 hC22 => ?_
      try simp (maxSteps := 1000000) [runs, gd, step1, need, evu, un, opnds, opv, ev, cst, cst1, cstL, getT, getH, putT, onL, nxt, argT, cellsOf, PV.one, thn, inBlk, jmp, fldP, ldP, ldC, live, Cells.len, Cells.get, Cells.w, sug, ldv, bin, eqF, eq1, ops2, sh2, binv, Tk.agg, stC, apC, rdS, apS, mvL, zp, argsP, idx, fillP, toInts, chunks, mkC, ixS, ixA, oidx, slP, sl0, mxF, bltn, frzA, frz, frzL, frz1, pur1, Cells.pur, PV.scal, scal1, runD, rdO, PV.ids, id1, zids, ety, Eff.on, cnd, minb, and1b, ifmax, ifmin, mxv, sugI, strv, w0, w1, w2, wm1, hspl]
      refine hC22 _ (fun hc22 => ?_) (fun hc22 => ?_)
      · clear hC22
        try simp at hc22
        refine swp_seq fun K23 hK23 => ?_
        refine swp_region ty_ok ?_
        try simp (maxSteps := 1000000) [runs, gd, step1, need, evu, un, opnds, opv, ev, cst, cst1, cstL, getT, getH, putT, onL, nxt, argT, cellsOf, PV.one, thn, inBlk, jmp, fldP, ldP, ldC, live, Cells.len, Cells.get, Cells.w, sug, ldv, bin, eqF, eq1, ops2, sh2, binv, Tk.agg, stC, apC, rdS, apS, mvL, zp, argsP, idx, fillP, toInts, chunks, mkC, ixS, ixA, oidx, slP, sl0, mxF, bltn, frzA, frz, frzL, frz1, pur1, Cells.pur, PV.scal, scal1, runD, rdO, PV.ids, id1, zids, ety, Eff.on, cnd, minb, and1b, ifmax, ifmin, mxv, sugI, strv, w0, w1, w2, wm1, hspl]
        repeat' (first | apply And.intro | intro _)
        any_goals (first | (refine hK23 _ ?_; clear hK23) | (first | omega | (simp only [IntKind.wrap_i64] at *; omega) | (simp_all; done) | (simp_all; omega)))
        refine swp_ret ?_
        simp [runs, gd, step1, need, evu, un, opnds, opv, ev, cst, cst1, cstL, getT, getH, putT, onL, nxt, argT, cellsOf, PV.one, thn, inBlk, jmp, fldP, ldP, ldC, live, Cells.len, Cells.get, Cells.w, sug, ldv, bin, eqF, eq1, ops2, sh2, binv, Tk.agg, stC, apC, rdS, apS, mvL, zp, argsP, idx, fillP, toInts, chunks, mkC, ixS, ixA, oidx, slP, sl0, mxF, bltn, frzA, frz, frzL, frz1, pur1, Cells.pur, PV.scal, scal1, runD, rdO, PV.ids, id1, zids, ety, Eff.on, cnd, minb, and1b, ifmax, ifmin, mxv, sugI, strv, w0, w1, w2, wm1, fnPost, Try.results13, resP, tupOf]
      · clear hC22
        try simp at hc22
        refine swp_skip ?_
        simp only [thn, inBlk]
        refine hK20 _ ?_; clear hK20
        refine swp_seq fun K24 hK24 => ?_
        have hsp := sp_ok hz (gi := gi.toNat) (by omega) hws (k := ki.toNat) (n := ni) (by omega) (by have h := hc22; omega) ct2
        have hsll := spL_len ws ki.toNat ni (by omega)
        have hcz := chL_cg hsp.bk hz hsp.sec
        have hsw : IntKind.i64.wrap ((ws[ki.toNat]?.getD default).len - ni) = (ws[ki.toNat]?.getD default).len - ni := w64 (by omega)
        have hLs : LenOk g (se.set gi.toNat (spL ws ki.toNat ni)) st tn := ⟨⟨hl1, by rw [hsp.len]; exact hl2, hl3, hl4⟩, hsp.sm, hl6, hl7⟩
        have hsl2 : (se.set gi.toNat (spL ws ki.toNat ni)).length = se.length := hsp.len
        refine swp_region ty_ok ?_
        refine runs_cut 1 fun R25 hR25 => ?_
        try simp (maxSteps := 1000000) [runs, gd, step1, need, evu, un, opnds, opv, ev, cst, cst1, cstL, getT, getH, putT, onL, nxt, argT, cellsOf, PV.one, thn, inBlk, jmp, fldP, ldP, ldC, live, Cells.len, Cells.get, Cells.w, sug, ldv, bin, eqF, eq1, ops2, sh2, binv, Tk.agg, stC, apC, rdS, apS, mvL, zp, argsP, idx, fillP, toInts, chunks, mkC, ixS, ixA, oidx, slP, sl0, mxF, bltn, frzA, frz, frzL, frz1, pur1, Cells.pur, PV.scal, scal1, runD, rdO, PV.ids, id1, zids, ety, Eff.on, cnd, minb, and1b, ifmax, ifmin, mxv, sugI, strv, w0, w1, w2, wm1, hspl, List.take_succ_cons, List.take_zero, List.drop_succ_cons, List.drop_zero]
        repeat' (first | apply And.intro | intro _)
        any_goals (first | (refine hR25 _ ?_; clear hR25) | (first | omega | (simp only [IntKind.wrap_i64] at *; omega) | (simp_all; done) | (simp_all; omega)))
        refine runs_cut 1 fun R26 hR26 => ?_
        try simp (maxSteps := 1000000) [runs, gd, step1, need, evu, un, opnds, opv, ev, cst, cst1, cstL, getT, getH, putT, onL, nxt, argT, cellsOf, PV.one, thn, inBlk, jmp, fldP, ldP, ldC, live, Cells.len, Cells.get, Cells.w, sug, ldv, bin, eqF, eq1, ops2, sh2, binv, Tk.agg, stC, apC, rdS, apS, mvL, zp, argsP, idx, fillP, toInts, chunks, mkC, ixS, ixA, oidx, slP, sl0, mxF, bltn, frzA, frz, frzL, frz1, pur1, Cells.pur, PV.scal, scal1, runD, rdO, PV.ids, id1, zids, ety, Eff.on, cnd, minb, and1b, ifmax, ifmin, mxv, sugI, strv, w0, w1, w2, wm1, hspl, List.take_succ_cons, List.take_zero, List.drop_succ_cons, List.drop_zero]
        refine .inr (hcl_mk (tw3 ga s sh m g se st tn ln hLk (by omega)) (by simp [PV.ids, id1, getH, Blk.inL, Cells.inL, inL1]) (by simp [PV.inL, inL1]) (by simp) ?_)
        try simp (maxSteps := 1000000) [runs, gd, step1, need, evu, un, opnds, opv, ev, cst, cst1, cstL, getT, getH, putT, onL, nxt, argT, cellsOf, PV.one, thn, inBlk, jmp, fldP, ldP, ldC, live, Cells.len, Cells.get, Cells.w, sug, ldv, bin, eqF, eq1, ops2, sh2, binv, Tk.agg, stC, apC, rdS, apS, mvL, zp, argsP, idx, fillP, toInts, chunks, mkC, ixS, ixA, oidx, slP, sl0, mxF, bltn, frzA, frz, frzL, frz1, pur1, Cells.pur, PV.scal, scal1, runD, rdO, PV.ids, id1, zids, ety, Eff.on, cnd, minb, and1b, ifmax, ifmin, mxv, sugI, strv, w0, w1, w2, wm1, hspl]
        repeat' (first | apply And.intro | intro _)
        any_goals (first | (refine hR26 _ ?_; clear hR26) | (first | omega | (simp only [IntKind.wrap_i64] at *; omega) | (simp_all; done) | (simp_all; omega)))
        try simp (maxSteps := 1000000) [runs, gd, step1, need, evu, un, opnds, opv, ev, cst, cst1, cstL, getT, getH, putT, onL, nxt, argT, cellsOf, PV.one, thn, inBlk, jmp, fldP, ldP, ldC, live, Cells.len, Cells.get, Cells.w, sug, ldv, bin, eqF, eq1, ops2, sh2, binv, Tk.agg, stC, apC, rdS, apS, mvL, zp, argsP, idx, fillP, toInts, chunks, mkC, ixS, ixA, oidx, slP, sl0, mxF, bltn, frzA, frz, frzL, frz1, pur1, Cells.pur, PV.scal, scal1, runD, rdO, PV.ids, id1, zids, ety, Eff.on, cnd, minb, and1b, ifmax, ifmin, mxv, sugI, strv, w0, w1, w2, wm1, hspl, List.take_succ_cons, List.take_zero, List.drop_succ_cons, List.drop_zero]
        repeat' (first | apply And.intro | intro _)
        any_goals (first | (refine hK24 _ ?_; clear hK24) | (first | omega | (simp only [IntKind.wrap_i64] at *; omega) | (simp_all; done) | (simp_all; omega)))
        refine swp_seq fun K27 hK27 => ?_
        refine swp_region ty_ok ?_
        try simp (maxSteps := 1000000) [runs, gd, step1, need, evu, un, opnds, opv, ev, cst, cst1, cstL, getT, getH, putT, onL, nxt, argT, cellsOf, PV.one, thn, inBlk, jmp, fldP, ldP, ldC, live, Cells.len, Cells.get, Cells.w, sug, ldv, bin, eqF, eq1, ops2, sh2, binv, Tk.agg, stC, apC, rdS, apS, mvL, zp, argsP, idx, fillP, toInts, chunks, mkC, ixS, ixA, oidx, slP, sl0, mxF, bltn, frzA, frz, frzL, frz1, pur1, Cells.pur, PV.scal, scal1, runD, rdO, PV.ids, id1, zids, ety, Eff.on, cnd, minb, and1b, ifmax, ifmin, mxv, sugI, strv, w0, w1, w2, wm1, hspl]
        repeat' (first | apply And.intro | intro _)
        any_goals (first | (refine hK27 _ ?_; clear hK27) | (first | omega | (simp only [IntKind.wrap_i64] at *; omega) | (simp_all; done) | (simp_all; omega)))
        refine swp_seq fun K28 hK28 => ?_
        refine swp_seq fun K29 hK29 => ?_
        refine swp_region ty_ok ?_
        try simp (maxSteps := 1000000) [runs, gd, step1, need, evu, un, opnds, opv, ev, cst, cst1, cstL, getT, getH, putT, onL, nxt, argT, cellsOf, PV.one, thn, inBlk, jmp, fldP, ldP, ldC, live, Cells.len, Cells.get, Cells.w, sug, ldv, bin, eqF, eq1, ops2, sh2, binv, Tk.agg, stC, apC, rdS, apS, mvL, zp, argsP, idx, fillP, toInts, chunks, mkC, ixS, ixA, oidx, slP, sl0, mxF, bltn, frzA, frz, frzL, frz1, pur1, Cells.pur, PV.scal, scal1, runD, rdO, PV.ids, id1, zids, ety, Eff.on, cnd, minb, and1b, ifmax, ifmin, mxv, sugI, strv, w0, w1, w2, wm1, hspl]
        repeat' (first | apply And.intro | intro _)
        any_goals (first | (refine hK29 _ ?_; clear hK29) | (first | omega | (simp only [IntKind.wrap_i64] at *; omega) | (simp_all; done) | (simp_all; omega)))
        refine swp_block ?_
        refine swp_own 17 38 (by simp [getT]; rfl) rfl ?_
        refine swp_loop 8 (fun m_ s_ => ∃ (i : Nat) (l : List Sc), (i ≤ ws.length) ∧ (l ++ spR ws ki.toNat ni i = spL ws ki.toNat ni) ∧ s_ = ⟨[(0, .int .i64 rate), (6, .ptr 0 0 0 1), (12, .int .i64 gi), (13, .int .i64 ki), (14, .ptr 1 0 0 1), (15, .int .i64 ni), (16, .ptr 6 0 0 1), (17, .sl 7 0 l.length l.length), (18, .int .i64 (i : Nat))], [(0, some ⟨.rows 9 [[.int .i64 ga, .int .u8 s, .int .u8 sh, .int .i64 m, .ro (.ints .i64 g), .ro (.rows 1 (se.map fun w => [.ro (.rows 2 (w.map Sc.row))])), .ro (.rows 1 (st.map fun w => [.ro (.ints .i64 w)])), .ro (.rows 1 (tn.map fun w => [.ro (.rows 5 (w.map Fl.row))])), .ro (.ints .i64 ln)]], true, 29⟩), (1, some ⟨.rows 2 [[.int .i64 (ws[ki.toNat]?.getD default).book, .int .i64 (ws[ki.toNat]?.getD default).len]], true, 38⟩), (2, some ⟨.rows 1 (se.map fun w => [PV.ro (.rows 2 (w.map Sc.row))]), false, 36⟩), (3, some ⟨.rows 1 (st.map fun w => [PV.ro (.ints .i64 w)]), false, 22⟩), (4, some ⟨.rows 1 (tn.map fun w => [PV.ro (.rows 5 (w.map Fl.row))]), false, 33⟩), (5, some ⟨.ints .i64 ln, false, 3⟩), (6, some ⟨.rows 9 [[.int .i64 ga, .int .u8 s, .int .u8 sh, .int .i64 m, .ro (.ints .i64 g), .sl 2 0 se.length se.length, .sl 3 0 st.length st.length, .sl 4 0 tn.length tn.length, .sl 5 0 ln.length ln.length]], true, 29⟩), (7, some ⟨.rows 2 (l.map Sc.row), false, 38⟩)], 8⟩ ∧ m_ = ws.length - i) _ ⟨[(0, .int .i64 rate), (6, .ptr 0 0 0 1), (12, .int .i64 gi), (13, .int .i64 ki), (14, .ptr 1 0 0 1), (15, .int .i64 ni), (16, .ptr 6 0 0 1), (17, .sl 7 0 [].length [].length), (18, .int .i64 (0 : Nat))], [(0, some ⟨.rows 9 [[.int .i64 ga, .int .u8 s, .int .u8 sh, .int .i64 m, .ro (.ints .i64 g), .ro (.rows 1 (se.map fun w => [.ro (.rows 2 (w.map Sc.row))])), .ro (.rows 1 (st.map fun w => [.ro (.ints .i64 w)])), .ro (.rows 1 (tn.map fun w => [.ro (.rows 5 (w.map Fl.row))])), .ro (.ints .i64 ln)]], true, 29⟩), (1, some ⟨.rows 2 [[.int .i64 (ws[ki.toNat]?.getD default).book, .int .i64 (ws[ki.toNat]?.getD default).len]], true, 38⟩), (2, some ⟨.rows 1 (se.map fun w => [PV.ro (.rows 2 (w.map Sc.row))]), false, 36⟩), (3, some ⟨.rows 1 (st.map fun w => [PV.ro (.ints .i64 w)]), false, 22⟩), (4, some ⟨.rows 1 (tn.map fun w => [PV.ro (.rows 5 (w.map Fl.row))]), false, 33⟩), (5, some ⟨.ints .i64 ln, false, 3⟩), (6, some ⟨.rows 9 [[.int .i64 ga, .int .u8 s, .int .u8 sh, .int .i64 m, .ro (.ints .i64 g), .sl 2 0 se.length se.length, .sl 3 0 st.length st.length, .sl 4 0 tn.length tn.length, .sl 5 0 ln.length ln.length]], true, 29⟩), (7, some ⟨.rows 2 ([].map Sc.row), false, 38⟩)], 8⟩ ⟨by simp [getT, PV.lo, lo1], by simp [getH, Blk.lo, Cells.lo, lo1], rfl, by omega⟩ ⟨(0), ([]), by omega, by (unfold spR; rw [if_pos (by omega)]; rfl), rfl, rfl⟩ ?_
        rintro m_ s_ ⟨i, l, hL30_0, hL30_1, rfl, rfl⟩ KL30 hL30
        have hiw : IntKind.i64.wrap ((i : Int) + 1) = (((i + 1 : Nat)) : Int) := wnext (by omega)
        have hL_c := (by assumption : l ++ spR ws ki.toNat ni i = spL ws ki.toNat ni)
        have hll : l.length ≤ 41 := by have h := congrArg List.length hL_c; rw [List.length_append, hsll] at h; omega
        refine swp_seq fun K31 hK31 => ?_
        refine swp_seq fun K32 hK32 => ?_
        refine swp_region ty_ok ?_
        try simp (maxSteps := 1000000) [runs, gd, step1, need, evu, un, opnds, opv, ev, cst, cst1, cstL, getT, getH, putT, onL, nxt, argT, cellsOf, PV.one, thn, inBlk, jmp, fldP, ldP, ldC, live, Cells.len, Cells.get, Cells.w, sug, ldv, bin, eqF, eq1, ops2, sh2, binv, Tk.agg, stC, apC, rdS, apS, mvL, zp, argsP, idx, fillP, toInts, chunks, mkC, ixS, ixA, oidx, slP, sl0, mxF, bltn, frzA, frz, frzL, frz1, pur1, Cells.pur, PV.scal, scal1, runD, rdO, PV.ids, id1, zids, ety, Eff.on, cnd, minb, and1b, ifmax, ifmin, mxv, sugI, strv, w0, w1, w2, wm1, hspl, hrowS]
        repeat' (first | apply And.intro | intro _)
        any_goals (first | (refine hK32 _ ?_; clear hK32) | (first | omega | (simp only [IntKind.wrap_i64] at *; omega) | (simp_all; done) | (simp_all; omega)))
        refine swp_if fun C33 hC33 => ?_
        try simp (maxSteps := 1000000) [runs, gd, step1, need, evu, un, opnds, opv, ev, cst, cst1, cstL, getT, getH, putT, onL, nxt, argT, cellsOf, PV.one, thn, inBlk, jmp, fldP, ldP, ldC, live, Cells.len, Cells.get, Cells.w, sug, ldv, bin, eqF, eq1, ops2, sh2, binv, Tk.agg, stC, apC, rdS, apS, mvL, zp, argsP, idx, fillP, toInts, chunks, mkC, ixS, ixA, oidx, slP, sl0, mxF, bltn, frzA, frz, frzL, frz1, pur1, Cells.pur, PV.scal, scal1, runD, rdO, PV.ids, id1, zids, ety, Eff.on, cnd, minb, and1b, ifmax, ifmin, mxv, sugI, strv, w0, w1, w2, wm1, hspl, hrowS]
        refine hC33 _ (fun hc33 => ?_) (fun hc33 => ?_)
        · clear hC33
          try simp at hc33
          refine swp_skip ?_
          simp only [thn, inBlk]
          refine hK31 _ ?_; clear hK31
          refine swp_seq fun K34 hK34 => ?_
          refine swp_block ?_
          refine swp_seq fun K35 hK35 => ?_
          refine swp_seq fun K36 hK36 => ?_
          refine swp_region ty_ok ?_
          try simp (maxSteps := 1000000) [runs, gd, step1, need, evu, un, opnds, opv, ev, cst, cst1, cstL, getT, getH, putT, onL, nxt, argT, cellsOf, PV.one, thn, inBlk, jmp, fldP, ldP, ldC, live, Cells.len, Cells.get, Cells.w, sug, ldv, bin, eqF, eq1, ops2, sh2, binv, Tk.agg, stC, apC, rdS, apS, mvL, zp, argsP, idx, fillP, toInts, chunks, mkC, ixS, ixA, oidx, slP, sl0, mxF, bltn, frzA, frz, frzL, frz1, pur1, Cells.pur, PV.scal, scal1, runD, rdO, PV.ids, id1, zids, ety, Eff.on, cnd, minb, and1b, ifmax, ifmin, mxv, sugI, strv, w0, w1, w2, wm1, hspl]
          repeat' (first | apply And.intro | intro _)
          any_goals (first | (refine hK36 _ ?_; clear hK36) | (first | omega | (simp only [IntKind.wrap_i64] at *; omega) | (simp_all; done) | (simp_all; omega)))
          refine swp_if fun C37 hC37 => ?_
          try simp (maxSteps := 1000000) [runs, gd, step1, need, evu, un, opnds, opv, ev, cst, cst1, cstL, getT, getH, putT, onL, nxt, argT, cellsOf, PV.one, thn, inBlk, jmp, fldP, ldP, ldC, live, Cells.len, Cells.get, Cells.w, sug, ldv, bin, eqF, eq1, ops2, sh2, binv, Tk.agg, stC, apC, rdS, apS, mvL, zp, argsP, idx, fillP, toInts, chunks, mkC, ixS, ixA, oidx, slP, sl0, mxF, bltn, frzA, frz, frzL, frz1, pur1, Cells.pur, PV.scal, scal1, runD, rdO, PV.ids, id1, zids, ety, Eff.on, cnd, minb, and1b, ifmax, ifmin, mxv, sugI, strv, w0, w1, w2, wm1, hspl]
          refine hC37 _ (fun hc37 => ?_) (fun hc37 => ?_)
          · clear hC37
            try simp at hc37
            refine swp_seq fun K38 hK38 => ?_
            have hri := sc_at (ws := ws) (k := i) (by omega)
            refine swp_region ty_ok ?_
            refine runs_cut 9 fun R39 hR39 => ?_
            try simp (maxSteps := 1000000) [runs, gd, step1, need, evu, un, opnds, opv, ev, cst, cst1, cstL, getT, getH, putT, onL, nxt, argT, cellsOf, PV.one, thn, inBlk, jmp, fldP, ldP, ldC, live, Cells.len, Cells.get, Cells.w, sug, ldv, bin, eqF, eq1, ops2, sh2, binv, Tk.agg, stC, apC, rdS, apS, mvL, zp, argsP, idx, fillP, toInts, chunks, mkC, ixS, ixA, oidx, slP, sl0, mxF, bltn, frzA, frz, frzL, frz1, pur1, Cells.pur, PV.scal, scal1, runD, rdO, PV.ids, id1, zids, ety, Eff.on, cnd, minb, and1b, ifmax, ifmin, mxv, sugI, strv, w0, w1, w2, wm1, hspl, hrowS, hri, List.take_succ_cons, List.take_zero, List.drop_succ_cons, List.drop_zero]
            repeat' (first | apply And.intro | intro _)
            any_goals (first | (refine hR39 _ ?_; clear hR39) | (first | omega | (simp only [IntKind.wrap_i64] at *; omega) | (simp_all; done) | (simp_all; omega)))
            refine runs_cut 1 fun R40 hR40 => ?_
            try simp (maxSteps := 1000000) [runs, gd, step1, need, evu, un, opnds, opv, ev, cst, cst1, cstL, getT, getH, putT, onL, nxt, argT, cellsOf, PV.one, thn, inBlk, jmp, fldP, ldP, ldC, live, Cells.len, Cells.get, Cells.w, sug, ldv, bin, eqF, eq1, ops2, sh2, binv, Tk.agg, stC, apC, rdS, apS, mvL, zp, argsP, idx, fillP, toInts, chunks, mkC, ixS, ixA, oidx, slP, sl0, mxF, bltn, frzA, frz, frzL, frz1, pur1, Cells.pur, PV.scal, scal1, runD, rdO, PV.ids, id1, zids, ety, Eff.on, cnd, minb, and1b, ifmax, ifmin, mxv, sugI, strv, w0, w1, w2, wm1, hspl, hrowS, hri, List.take_succ_cons, List.take_zero, List.drop_succ_cons, List.drop_zero]
            repeat' (first | apply And.intro | intro _)
            any_goals (first | (refine Or.inl (hR40 _ ?_); clear hR40) | (first | omega | (simp only [IntKind.wrap_i64] at *; omega) | (simp_all; done) | (simp_all; omega)))
            try simp (maxSteps := 1000000) [runs, gd, step1, need, evu, un, opnds, opv, ev, cst, cst1, cstL, getT, getH, putT, onL, nxt, argT, cellsOf, PV.one, thn, inBlk, jmp, fldP, ldP, ldC, live, Cells.len, Cells.get, Cells.w, sug, ldv, bin, eqF, eq1, ops2, sh2, binv, Tk.agg, stC, apC, rdS, apS, mvL, zp, argsP, idx, fillP, toInts, chunks, mkC, ixS, ixA, oidx, slP, sl0, mxF, bltn, frzA, frz, frzL, frz1, pur1, Cells.pur, PV.scal, scal1, runD, rdO, PV.ids, id1, zids, ety, Eff.on, cnd, minb, and1b, ifmax, ifmin, mxv, sugI, strv, w0, w1, w2, wm1, hspl, hrowS, hri, List.take_succ_cons, List.take_zero, List.drop_succ_cons, List.drop_zero]
            repeat' (first | apply And.intro | intro _)
            any_goals (first | (refine hK38 _ ?_; clear hK38) | (first | omega | (simp only [IntKind.wrap_i64] at *; omega) | (simp_all; done) | (simp_all; omega)))
            refine swp_exit ?_
            simp [thn, inBlk]
            refine hK34 _ ?_; clear hK34
            refine swp_region ty_ok ?_
            try simp (maxSteps := 1000000) [runs, gd, step1, need, evu, un, opnds, opv, ev, cst, cst1, cstL, getT, getH, putT, onL, nxt, argT, cellsOf, PV.one, thn, inBlk, jmp, fldP, ldP, ldC, live, Cells.len, Cells.get, Cells.w, sug, ldv, bin, eqF, eq1, ops2, sh2, binv, Tk.agg, stC, apC, rdS, apS, mvL, zp, argsP, idx, fillP, toInts, chunks, mkC, ixS, ixA, oidx, slP, sl0, mxF, bltn, frzA, frz, frzL, frz1, pur1, Cells.pur, PV.scal, scal1, runD, rdO, PV.ids, id1, zids, ety, Eff.on, cnd, minb, and1b, ifmax, ifmin, mxv, sugI, strv, w0, w1, w2, wm1, hspl]
            repeat' apply And.intro
            any_goals (try omega)
            first | refine hL30 _ ⟨[(0, .int .i64 rate), (6, .ptr 0 0 0 1), (12, .int .i64 gi), (13, .int .i64 ki), (14, .ptr 1 0 0 1), (15, .int .i64 ni), (16, .ptr 6 0 0 1), (17, .sl 7 0 (l ++ [ws[i]?.getD default]).length (l ++ [ws[i]?.getD default]).length), (18, .int .i64 ((i + 1) : Nat))], [(0, some ⟨.rows 9 [[.int .i64 ga, .int .u8 s, .int .u8 sh, .int .i64 m, .ro (.ints .i64 g), .ro (.rows 1 (se.map fun w => [.ro (.rows 2 (w.map Sc.row))])), .ro (.rows 1 (st.map fun w => [.ro (.ints .i64 w)])), .ro (.rows 1 (tn.map fun w => [.ro (.rows 5 (w.map Fl.row))])), .ro (.ints .i64 ln)]], true, 29⟩), (1, some ⟨.rows 2 [[.int .i64 (ws[ki.toNat]?.getD default).book, .int .i64 (ws[ki.toNat]?.getD default).len]], true, 38⟩), (2, some ⟨.rows 1 (se.map fun w => [PV.ro (.rows 2 (w.map Sc.row))]), false, 36⟩), (3, some ⟨.rows 1 (st.map fun w => [PV.ro (.ints .i64 w)]), false, 22⟩), (4, some ⟨.rows 1 (tn.map fun w => [PV.ro (.rows 5 (w.map Fl.row))]), false, 33⟩), (5, some ⟨.ints .i64 ln, false, 3⟩), (6, some ⟨.rows 9 [[.int .i64 ga, .int .u8 s, .int .u8 sh, .int .i64 m, .ro (.ints .i64 g), .sl 2 0 se.length se.length, .sl 3 0 st.length st.length, .sl 4 0 tn.length tn.length, .sl 5 0 ln.length ln.length]], true, 29⟩), (7, some ⟨.rows 2 ((l ++ [ws[i]?.getD default]).map Sc.row), false, 38⟩)], 8⟩ _ ?_ ⟨(i + 1), (l ++ [ws[i]?.getD default]), by omega, by (first | (rw [← hL_c, spR_ne (i := i) (by omega) (by omega), List.append_assoc]; rfl) | (rw [← hL_c, spR_eq (i := i) (by omega) (by omega), List.append_assoc]; rfl)), rfl, rfl⟩ ⟨by simp [getT, PV.lo, lo1, hiw], by simp [getH, Blk.lo, Cells.lo, lo1, Sc.row], rfl, by omega⟩ | refine hL30 _ ⟨[(0, .int .i64 rate), (6, .ptr 0 0 0 1), (12, .int .i64 gi), (13, .int .i64 ki), (14, .ptr 1 0 0 1), (15, .int .i64 ni), (16, .ptr 6 0 0 1), (17, .sl 7 0 (l ++ [Sc.mk (ws[ki.toNat]?.getD default).book ni, Sc.mk (ws[ki.toNat]?.getD default).book ((ws[ki.toNat]?.getD default).len - ni)]).length (l ++ [Sc.mk (ws[ki.toNat]?.getD default).book ni, Sc.mk (ws[ki.toNat]?.getD default).book ((ws[ki.toNat]?.getD default).len - ni)]).length), (18, .int .i64 ((i + 1) : Nat))], [(0, some ⟨.rows 9 [[.int .i64 ga, .int .u8 s, .int .u8 sh, .int .i64 m, .ro (.ints .i64 g), .ro (.rows 1 (se.map fun w => [.ro (.rows 2 (w.map Sc.row))])), .ro (.rows 1 (st.map fun w => [.ro (.ints .i64 w)])), .ro (.rows 1 (tn.map fun w => [.ro (.rows 5 (w.map Fl.row))])), .ro (.ints .i64 ln)]], true, 29⟩), (1, some ⟨.rows 2 [[.int .i64 (ws[ki.toNat]?.getD default).book, .int .i64 (ws[ki.toNat]?.getD default).len]], true, 38⟩), (2, some ⟨.rows 1 (se.map fun w => [PV.ro (.rows 2 (w.map Sc.row))]), false, 36⟩), (3, some ⟨.rows 1 (st.map fun w => [PV.ro (.ints .i64 w)]), false, 22⟩), (4, some ⟨.rows 1 (tn.map fun w => [PV.ro (.rows 5 (w.map Fl.row))]), false, 33⟩), (5, some ⟨.ints .i64 ln, false, 3⟩), (6, some ⟨.rows 9 [[.int .i64 ga, .int .u8 s, .int .u8 sh, .int .i64 m, .ro (.ints .i64 g), .sl 2 0 se.length se.length, .sl 3 0 st.length st.length, .sl 4 0 tn.length tn.length, .sl 5 0 ln.length ln.length]], true, 29⟩), (7, some ⟨.rows 2 ((l ++ [Sc.mk (ws[ki.toNat]?.getD default).book ni, Sc.mk (ws[ki.toNat]?.getD default).book ((ws[ki.toNat]?.getD default).len - ni)]).map Sc.row), false, 38⟩)], 8⟩ _ ?_ ⟨(i + 1), (l ++ [Sc.mk (ws[ki.toNat]?.getD default).book ni, Sc.mk (ws[ki.toNat]?.getD default).book ((ws[ki.toNat]?.getD default).len - ni)]), by omega, by (first | (rw [← hL_c, spR_ne (i := i) (by omega) (by omega), List.append_assoc]; rfl) | (rw [← hL_c, spR_eq (i := i) (by omega) (by omega), List.append_assoc]; rfl)), rfl, rfl⟩ ⟨by simp [getT, PV.lo, lo1, hiw], by simp [getH, Blk.lo, Cells.lo, lo1, Sc.row], rfl, by omega⟩
            omega
          · clear hC37
            try simp at hc37
            refine swp_skip ?_
            simp only [thn, inBlk]
            refine hK35 _ ?_; clear hK35
            refine swp_region ty_ok ?_
            refine runs_cut 12 fun R41 hR41 => ?_
            try simp (maxSteps := 1000000) [runs, gd, step1, need, evu, un, opnds, opv, ev, cst, cst1, cstL, getT, getH, putT, onL, nxt, argT, cellsOf, PV.one, thn, inBlk, jmp, fldP, ldP, ldC, live, Cells.len, Cells.get, Cells.w, sug, ldv, bin, eqF, eq1, ops2, sh2, binv, Tk.agg, stC, apC, rdS, apS, mvL, zp, argsP, idx, fillP, toInts, chunks, mkC, ixS, ixA, oidx, slP, sl0, mxF, bltn, frzA, frz, frzL, frz1, pur1, Cells.pur, PV.scal, scal1, runD, rdO, PV.ids, id1, zids, ety, Eff.on, cnd, minb, and1b, ifmax, ifmin, mxv, sugI, strv, w0, w1, w2, wm1, hspl, hsw, List.take_succ_cons, List.take_zero, List.drop_succ_cons, List.drop_zero]
            repeat' (first | apply And.intro | intro _)
            any_goals (first | (refine hR41 _ ?_; clear hR41) | (first | omega | (simp only [IntKind.wrap_i64] at *; omega) | (simp_all; done) | (simp_all; omega)))
            refine runs_cut 1 fun R42 hR42 => ?_
            try simp (maxSteps := 1000000) [runs, gd, step1, need, evu, un, opnds, opv, ev, cst, cst1, cstL, getT, getH, putT, onL, nxt, argT, cellsOf, PV.one, thn, inBlk, jmp, fldP, ldP, ldC, live, Cells.len, Cells.get, Cells.w, sug, ldv, bin, eqF, eq1, ops2, sh2, binv, Tk.agg, stC, apC, rdS, apS, mvL, zp, argsP, idx, fillP, toInts, chunks, mkC, ixS, ixA, oidx, slP, sl0, mxF, bltn, frzA, frz, frzL, frz1, pur1, Cells.pur, PV.scal, scal1, runD, rdO, PV.ids, id1, zids, ety, Eff.on, cnd, minb, and1b, ifmax, ifmin, mxv, sugI, strv, w0, w1, w2, wm1, hspl, hsw, List.take_succ_cons, List.take_zero, List.drop_succ_cons, List.drop_zero]
            repeat' (first | apply And.intro | intro _)
            any_goals (first | (refine Or.inl (hR42 _ ?_); clear hR42) | (first | omega | (simp only [IntKind.wrap_i64] at *; omega) | (simp_all; done) | (simp_all; omega)))
            try simp (maxSteps := 1000000) [runs, gd, step1, need, evu, un, opnds, opv, ev, cst, cst1, cstL, getT, getH, putT, onL, nxt, argT, cellsOf, PV.one, thn, inBlk, jmp, fldP, ldP, ldC, live, Cells.len, Cells.get, Cells.w, sug, ldv, bin, eqF, eq1, ops2, sh2, binv, Tk.agg, stC, apC, rdS, apS, mvL, zp, argsP, idx, fillP, toInts, chunks, mkC, ixS, ixA, oidx, slP, sl0, mxF, bltn, frzA, frz, frzL, frz1, pur1, Cells.pur, PV.scal, scal1, runD, rdO, PV.ids, id1, zids, ety, Eff.on, cnd, minb, and1b, ifmax, ifmin, mxv, sugI, strv, w0, w1, w2, wm1, hspl, hsw, List.take_succ_cons, List.take_zero, List.drop_succ_cons, List.drop_zero]
            repeat' (first | apply And.intro | intro _)
            any_goals (first | (refine hK34 _ ?_; clear hK34) | (first | omega | (simp only [IntKind.wrap_i64] at *; omega) | (simp_all; done) | (simp_all; omega)))
            refine swp_region ty_ok ?_
            try simp (maxSteps := 1000000) [runs, gd, step1, need, evu, un, opnds, opv, ev, cst, cst1, cstL, getT, getH, putT, onL, nxt, argT, cellsOf, PV.one, thn, inBlk, jmp, fldP, ldP, ldC, live, Cells.len, Cells.get, Cells.w, sug, ldv, bin, eqF, eq1, ops2, sh2, binv, Tk.agg, stC, apC, rdS, apS, mvL, zp, argsP, idx, fillP, toInts, chunks, mkC, ixS, ixA, oidx, slP, sl0, mxF, bltn, frzA, frz, frzL, frz1, pur1, Cells.pur, PV.scal, scal1, runD, rdO, PV.ids, id1, zids, ety, Eff.on, cnd, minb, and1b, ifmax, ifmin, mxv, sugI, strv, w0, w1, w2, wm1, hspl]
            repeat' apply And.intro
            any_goals (try omega)
            first | refine hL30 _ ⟨[(0, .int .i64 rate), (6, .ptr 0 0 0 1), (12, .int .i64 gi), (13, .int .i64 ki), (14, .ptr 1 0 0 1), (15, .int .i64 ni), (16, .ptr 6 0 0 1), (17, .sl 7 0 (l ++ [ws[i]?.getD default]).length (l ++ [ws[i]?.getD default]).length), (18, .int .i64 ((i + 1) : Nat))], [(0, some ⟨.rows 9 [[.int .i64 ga, .int .u8 s, .int .u8 sh, .int .i64 m, .ro (.ints .i64 g), .ro (.rows 1 (se.map fun w => [.ro (.rows 2 (w.map Sc.row))])), .ro (.rows 1 (st.map fun w => [.ro (.ints .i64 w)])), .ro (.rows 1 (tn.map fun w => [.ro (.rows 5 (w.map Fl.row))])), .ro (.ints .i64 ln)]], true, 29⟩), (1, some ⟨.rows 2 [[.int .i64 (ws[ki.toNat]?.getD default).book, .int .i64 (ws[ki.toNat]?.getD default).len]], true, 38⟩), (2, some ⟨.rows 1 (se.map fun w => [PV.ro (.rows 2 (w.map Sc.row))]), false, 36⟩), (3, some ⟨.rows 1 (st.map fun w => [PV.ro (.ints .i64 w)]), false, 22⟩), (4, some ⟨.rows 1 (tn.map fun w => [PV.ro (.rows 5 (w.map Fl.row))]), false, 33⟩), (5, some ⟨.ints .i64 ln, false, 3⟩), (6, some ⟨.rows 9 [[.int .i64 ga, .int .u8 s, .int .u8 sh, .int .i64 m, .ro (.ints .i64 g), .sl 2 0 se.length se.length, .sl 3 0 st.length st.length, .sl 4 0 tn.length tn.length, .sl 5 0 ln.length ln.length]], true, 29⟩), (7, some ⟨.rows 2 ((l ++ [ws[i]?.getD default]).map Sc.row), false, 38⟩)], 8⟩ _ ?_ ⟨(i + 1), (l ++ [ws[i]?.getD default]), by omega, by (first | (rw [← hL_c, spR_ne (i := i) (by omega) (by omega), List.append_assoc]; rfl) | (rw [← hL_c, spR_eq (i := i) (by omega) (by omega), List.append_assoc]; rfl)), rfl, rfl⟩ ⟨by simp [getT, PV.lo, lo1, hiw], by simp [getH, Blk.lo, Cells.lo, lo1, Sc.row], rfl, by omega⟩ | refine hL30 _ ⟨[(0, .int .i64 rate), (6, .ptr 0 0 0 1), (12, .int .i64 gi), (13, .int .i64 ki), (14, .ptr 1 0 0 1), (15, .int .i64 ni), (16, .ptr 6 0 0 1), (17, .sl 7 0 (l ++ [Sc.mk (ws[ki.toNat]?.getD default).book ni, Sc.mk (ws[ki.toNat]?.getD default).book ((ws[ki.toNat]?.getD default).len - ni)]).length (l ++ [Sc.mk (ws[ki.toNat]?.getD default).book ni, Sc.mk (ws[ki.toNat]?.getD default).book ((ws[ki.toNat]?.getD default).len - ni)]).length), (18, .int .i64 ((i + 1) : Nat))], [(0, some ⟨.rows 9 [[.int .i64 ga, .int .u8 s, .int .u8 sh, .int .i64 m, .ro (.ints .i64 g), .ro (.rows 1 (se.map fun w => [.ro (.rows 2 (w.map Sc.row))])), .ro (.rows 1 (st.map fun w => [.ro (.ints .i64 w)])), .ro (.rows 1 (tn.map fun w => [.ro (.rows 5 (w.map Fl.row))])), .ro (.ints .i64 ln)]], true, 29⟩), (1, some ⟨.rows 2 [[.int .i64 (ws[ki.toNat]?.getD default).book, .int .i64 (ws[ki.toNat]?.getD default).len]], true, 38⟩), (2, some ⟨.rows 1 (se.map fun w => [PV.ro (.rows 2 (w.map Sc.row))]), false, 36⟩), (3, some ⟨.rows 1 (st.map fun w => [PV.ro (.ints .i64 w)]), false, 22⟩), (4, some ⟨.rows 1 (tn.map fun w => [PV.ro (.rows 5 (w.map Fl.row))]), false, 33⟩), (5, some ⟨.ints .i64 ln, false, 3⟩), (6, some ⟨.rows 9 [[.int .i64 ga, .int .u8 s, .int .u8 sh, .int .i64 m, .ro (.ints .i64 g), .sl 2 0 se.length se.length, .sl 3 0 st.length st.length, .sl 4 0 tn.length tn.length, .sl 5 0 ln.length ln.length]], true, 29⟩), (7, some ⟨.rows 2 ((l ++ [Sc.mk (ws[ki.toNat]?.getD default).book ni, Sc.mk (ws[ki.toNat]?.getD default).book ((ws[ki.toNat]?.getD default).len - ni)]).map Sc.row), false, 38⟩)], 8⟩ _ ?_ ⟨(i + 1), (l ++ [Sc.mk (ws[ki.toNat]?.getD default).book ni, Sc.mk (ws[ki.toNat]?.getD default).book ((ws[ki.toNat]?.getD default).len - ni)]), by omega, by (first | (rw [← hL_c, spR_ne (i := i) (by omega) (by omega), List.append_assoc]; rfl) | (rw [← hL_c, spR_eq (i := i) (by omega) (by omega), List.append_assoc]; rfl)), rfl, rfl⟩ ⟨by simp [getT, PV.lo, lo1, hiw], by simp [getH, Blk.lo, Cells.lo, lo1, Sc.row], rfl, by omega⟩
            omega
        · clear hC33
          try simp at hc33
          refine swp_exit ?_
          simp [thn, inBlk]
          refine hK28 _ ?_; clear hK28
          refine swp_seq fun K43 hK43 => ?_
          have hle : l = spL ws ki.toNat ni := (by have h := hL_c; rw [spR_end (by omega), List.append_nil] at h; exact h)
          refine swp_region ty_ok ?_
          try simp (maxSteps := 1000000) [runs, gd, step1, need, evu, un, opnds, opv, ev, cst, cst1, cstL, getT, getH, putT, onL, nxt, argT, cellsOf, PV.one, thn, inBlk, jmp, fldP, ldP, ldC, live, Cells.len, Cells.get, Cells.w, sug, ldv, bin, eqF, eq1, ops2, sh2, binv, Tk.agg, stC, apC, rdS, apS, mvL, zp, argsP, idx, fillP, toInts, chunks, mkC, ixS, ixA, oidx, slP, sl0, mxF, bltn, frzA, frz, frzL, frz1, pur1, Cells.pur, PV.scal, scal1, runD, rdO, PV.ids, id1, zids, ety, Eff.on, cnd, minb, and1b, ifmax, ifmin, mxv, sugI, strv, w0, w1, w2, wm1, hspl, hrowS]
          repeat' (first | apply And.intro | intro _)
          any_goals (first | (refine hK43 _ ?_; clear hK43) | (first | omega | (simp only [IntKind.wrap_i64] at *; omega) | (simp_all; done) | (simp_all; omega)))
          refine swp_seq fun K44 hK44 => ?_
          refine swp_seq fun K45 hK45 => ?_
          refine swp_region ty_ok ?_
          try simp (maxSteps := 1000000) [runs, gd, step1, need, evu, un, opnds, opv, ev, cst, cst1, cstL, getT, getH, putT, onL, nxt, argT, cellsOf, PV.one, thn, inBlk, jmp, fldP, ldP, ldC, live, Cells.len, Cells.get, Cells.w, sug, ldv, bin, eqF, eq1, ops2, sh2, binv, Tk.agg, stC, apC, rdS, apS, mvL, zp, argsP, idx, fillP, toInts, chunks, mkC, ixS, ixA, oidx, slP, sl0, mxF, bltn, frzA, frz, frzL, frz1, pur1, Cells.pur, PV.scal, scal1, runD, rdO, PV.ids, id1, zids, ety, Eff.on, cnd, minb, and1b, ifmax, ifmin, mxv, sugI, strv, w0, w1, w2, wm1, hspl]
          repeat' (first | apply And.intro | intro _)
          any_goals (first | (refine hK45 _ ?_; clear hK45) | (first | omega | (simp only [IntKind.wrap_i64] at *; omega) | (simp_all; done) | (simp_all; omega)))
          refine swp_block ?_
          refine swp_loop 8 (fun m_ s_ => ∃ (b : Nat), ((b : Int) ≤ m) ∧ s_ = ⟨[(0, .int .i64 rate), (6, .ptr 0 0 0 1), (12, .int .i64 gi), (16, .ptr 6 0 0 1), (19, .int .i64 (b : Nat))], [(0, some ⟨.rows 9 [[.int .i64 ga, .int .u8 s, .int .u8 sh, .int .i64 m, .ro (.ints .i64 g), .ro (.rows 1 (se.map fun w => [.ro (.rows 2 (w.map Sc.row))])), .ro (.rows 1 (st.map fun w => [.ro (.ints .i64 w)])), .ro (.rows 1 (tn.map fun w => [.ro (.rows 5 (w.map Fl.row))])), .ro (.ints .i64 ln)]], true, 29⟩), (2, some ⟨.rows 1 ((se.map fun w => [PV.ro (.rows 2 (w.map Sc.row))]).set gi.toNat [.ro (.rows 2 ((spL ws ki.toNat ni).map Sc.row))]), false, 36⟩), (3, some ⟨.rows 1 (st.map fun w => [PV.ro (.ints .i64 w)]), false, 22⟩), (4, some ⟨.rows 1 (tn.map fun w => [PV.ro (.rows 5 (w.map Fl.row))]), false, 33⟩), (5, some ⟨.ints .i64 ln, false, 3⟩), (6, some ⟨.rows 9 [[.int .i64 ga, .int .u8 s, .int .u8 sh, .int .i64 m, .ro (.ints .i64 g), .sl 2 0 se.length se.length, .sl 3 0 st.length st.length, .sl 4 0 tn.length tn.length, .sl 5 0 ln.length ln.length]], true, 29⟩)], 8⟩ ∧ m_ = m.toNat - b) _ ⟨[(0, .int .i64 rate), (6, .ptr 0 0 0 1), (12, .int .i64 gi), (16, .ptr 6 0 0 1), (19, .int .i64 (0 : Nat))], [(0, some ⟨.rows 9 [[.int .i64 ga, .int .u8 s, .int .u8 sh, .int .i64 m, .ro (.ints .i64 g), .ro (.rows 1 (se.map fun w => [.ro (.rows 2 (w.map Sc.row))])), .ro (.rows 1 (st.map fun w => [.ro (.ints .i64 w)])), .ro (.rows 1 (tn.map fun w => [.ro (.rows 5 (w.map Fl.row))])), .ro (.ints .i64 ln)]], true, 29⟩), (2, some ⟨.rows 1 ((se.map fun w => [PV.ro (.rows 2 (w.map Sc.row))]).set gi.toNat [.ro (.rows 2 ((spL ws ki.toNat ni).map Sc.row))]), false, 36⟩), (3, some ⟨.rows 1 (st.map fun w => [PV.ro (.ints .i64 w)]), false, 22⟩), (4, some ⟨.rows 1 (tn.map fun w => [PV.ro (.rows 5 (w.map Fl.row))]), false, 33⟩), (5, some ⟨.ints .i64 ln, false, 3⟩), (6, some ⟨.rows 9 [[.int .i64 ga, .int .u8 s, .int .u8 sh, .int .i64 m, .ro (.ints .i64 g), .sl 2 0 se.length se.length, .sl 3 0 st.length st.length, .sl 4 0 tn.length tn.length, .sl 5 0 ln.length ln.length]], true, 29⟩)], 8⟩ ⟨by simp [getT, PV.lo, lo1], by simp [getH, Blk.lo, Cells.lo, lo1, hle, hrowS], rfl, by omega⟩ ⟨(0), by (first | omega | (simp only [IntKind.wrap_i64] at *; omega) | (simp_all; done) | (simp_all; omega)), rfl, rfl⟩ ?_
          rintro m_ s_ ⟨b, hL46_0, rfl, rfl⟩ KL46 hL46
          have hbw : IntKind.i64.wrap ((b : Int) + 1) = (((b + 1 : Nat)) : Int) := wnext (by omega)
          have hbe := hG.bk gi (b : Nat) (by omega) (by omega)
          refine swp_seq fun K47 hK47 => ?_
          refine swp_seq fun K48 hK48 => ?_
          refine swp_region ty_ok ?_
          try simp (maxSteps := 1000000) [runs, gd, step1, need, evu, un, opnds, opv, ev, cst, cst1, cstL, getT, getH, putT, onL, nxt, argT, cellsOf, PV.one, thn, inBlk, jmp, fldP, ldP, ldC, live, Cells.len, Cells.get, Cells.w, sug, ldv, bin, eqF, eq1, ops2, sh2, binv, Tk.agg, stC, apC, rdS, apS, mvL, zp, argsP, idx, fillP, toInts, chunks, mkC, ixS, ixA, oidx, slP, sl0, mxF, bltn, frzA, frz, frzL, frz1, pur1, Cells.pur, PV.scal, scal1, runD, rdO, PV.ids, id1, zids, ety, Eff.on, cnd, minb, and1b, ifmax, ifmin, mxv, sugI, strv, w0, w1, w2, wm1, hspl]
          repeat' (first | apply And.intro | intro _)
          any_goals (first | (refine hK48 _ ?_; clear hK48) | (first | omega | (simp only [IntKind.wrap_i64] at *; omega) | (simp_all; done) | (simp_all; omega)))
          refine swp_if fun C49 hC49 => ?_
          try simp (maxSteps := 1000000) [runs, gd, step1, need, evu, un, opnds, opv, ev, cst, cst1, cstL, getT, getH, putT, onL, nxt, argT, cellsOf, PV.one, thn, inBlk, jmp, fldP, ldP, ldC, live, Cells.len, Cells.get, Cells.w, sug, ldv, bin, eqF, eq1, ops2, sh2, binv, Tk.agg, stC, apC, rdS, apS, mvL, zp, argsP, idx, fillP, toInts, chunks, mkC, ixS, ixA, oidx, slP, sl0, mxF, bltn, frzA, frz, frzL, frz1, pur1, Cells.pur, PV.scal, scal1, runD, rdO, PV.ids, id1, zids, ety, Eff.on, cnd, minb, and1b, ifmax, ifmin, mxv, sugI, strv, w0, w1, w2, wm1, hspl]
          refine hC49 _ (fun hc49 => ?_) (fun hc49 => ?_)
          · clear hC49
            try simp at hc49
            refine swp_skip ?_
            simp only [thn, inBlk]
            refine hK47 _ ?_; clear hK47
            refine swp_seq fun K50 hK50 => ?_
            refine swp_block ?_
            refine swp_seq fun K51 hK51 => ?_
            refine swp_region ty_ok ?_
            refine runs_cut 4 fun R52 hR52 => ?_
            try simp (maxSteps := 1000000) [runs, gd, step1, need, evu, un, opnds, opv, ev, cst, cst1, cstL, getT, getH, putT, onL, nxt, argT, cellsOf, PV.one, thn, inBlk, jmp, fldP, ldP, ldC, live, Cells.len, Cells.get, Cells.w, sug, ldv, bin, eqF, eq1, ops2, sh2, binv, Tk.agg, stC, apC, rdS, apS, mvL, zp, argsP, idx, fillP, toInts, chunks, mkC, ixS, ixA, oidx, slP, sl0, mxF, bltn, frzA, frz, frzL, frz1, pur1, Cells.pur, PV.scal, scal1, runD, rdO, PV.ids, id1, zids, ety, Eff.on, cnd, minb, and1b, ifmax, ifmin, mxv, sugI, strv, w0, w1, w2, wm1, hspl, List.take_succ_cons, List.take_zero, List.drop_succ_cons, List.drop_zero]
            repeat' (first | apply And.intro | intro _)
            any_goals (first | (refine hR52 _ ?_; clear hR52) | (first | omega | (simp only [IntKind.wrap_i64] at *; omega) | (simp_all; done) | (simp_all; omega)))
            refine runs_cut 1 fun R53 hR53 => ?_
            try simp (maxSteps := 1000000) [runs, gd, step1, need, evu, un, opnds, opv, ev, cst, cst1, cstL, getT, getH, putT, onL, nxt, argT, cellsOf, PV.one, thn, inBlk, jmp, fldP, ldP, ldC, live, Cells.len, Cells.get, Cells.w, sug, ldv, bin, eqF, eq1, ops2, sh2, binv, Tk.agg, stC, apC, rdS, apS, mvL, zp, argsP, idx, fillP, toInts, chunks, mkC, ixS, ixA, oidx, slP, sl0, mxF, bltn, frzA, frz, frzL, frz1, pur1, Cells.pur, PV.scal, scal1, runD, rdO, PV.ids, id1, zids, ety, Eff.on, cnd, minb, and1b, ifmax, ifmin, mxv, sugI, strv, w0, w1, w2, wm1, hspl, List.take_succ_cons, List.take_zero, List.drop_succ_cons, List.drop_zero]
            refine .inl ⟨_, (by have h := lane_Book_ok (se.set gi.toNat (spL ws ki.toNat ni)) gi (b : Nat) hsp.sm (by omega); rw [hsp.bk] at h; simp only [List.map_set] at h; exact h), ?_⟩
            try simp (maxSteps := 1000000) [runs, gd, step1, need, evu, un, opnds, opv, ev, cst, cst1, cstL, getT, getH, putT, onL, nxt, argT, cellsOf, PV.one, thn, inBlk, jmp, fldP, ldP, ldC, live, Cells.len, Cells.get, Cells.w, sug, ldv, bin, eqF, eq1, ops2, sh2, binv, Tk.agg, stC, apC, rdS, apS, mvL, zp, argsP, idx, fillP, toInts, chunks, mkC, ixS, ixA, oidx, slP, sl0, mxF, bltn, frzA, frz, frzL, frz1, pur1, Cells.pur, PV.scal, scal1, runD, rdO, PV.ids, id1, zids, ety, Eff.on, cnd, minb, and1b, ifmax, ifmin, mxv, sugI, strv, w0, w1, w2, wm1, hspl]
            repeat' (first | apply And.intro | intro _)
            any_goals (first | (refine hR53 _ ?_; clear hR53) | (first | omega | (simp only [IntKind.wrap_i64] at *; omega) | (simp_all; done) | (simp_all; omega)))
            try simp (maxSteps := 1000000) [runs, gd, step1, need, evu, un, opnds, opv, ev, cst, cst1, cstL, getT, getH, putT, onL, nxt, argT, cellsOf, PV.one, thn, inBlk, jmp, fldP, ldP, ldC, live, Cells.len, Cells.get, Cells.w, sug, ldv, bin, eqF, eq1, ops2, sh2, binv, Tk.agg, stC, apC, rdS, apS, mvL, zp, argsP, idx, fillP, toInts, chunks, mkC, ixS, ixA, oidx, slP, sl0, mxF, bltn, frzA, frz, frzL, frz1, pur1, Cells.pur, PV.scal, scal1, runD, rdO, PV.ids, id1, zids, ety, Eff.on, cnd, minb, and1b, ifmax, ifmin, mxv, sugI, strv, w0, w1, w2, wm1, hspl, List.take_succ_cons, List.take_zero, List.drop_succ_cons, List.drop_zero]
            repeat' (first | apply And.intro | intro _)
            any_goals (first | (refine hK51 _ ?_; clear hK51) | (first | omega | (simp only [IntKind.wrap_i64] at *; omega) | (simp_all; done) | (simp_all; omega)))
            refine swp_seq fun K54 hK54 => ?_
            refine swp_region ty_ok ?_
            refine runs_cut 4 fun R55 hR55 => ?_
            try simp (maxSteps := 1000000) [runs, gd, step1, need, evu, un, opnds, opv, ev, cst, cst1, cstL, getT, getH, putT, onL, nxt, argT, cellsOf, PV.one, thn, inBlk, jmp, fldP, ldP, ldC, live, Cells.len, Cells.get, Cells.w, sug, ldv, bin, eqF, eq1, ops2, sh2, binv, Tk.agg, stC, apC, rdS, apS, mvL, zp, argsP, idx, fillP, toInts, chunks, mkC, ixS, ixA, oidx, slP, sl0, mxF, bltn, frzA, frz, frzL, frz1, pur1, Cells.pur, PV.scal, scal1, runD, rdO, PV.ids, id1, zids, ety, Eff.on, cnd, minb, and1b, ifmax, ifmin, mxv, sugI, strv, w0, w1, w2, wm1, hspl, List.take_succ_cons, List.take_zero, List.drop_succ_cons, List.drop_zero]
            repeat' (first | apply And.intro | intro _)
            any_goals (first | (refine hR55 _ ?_; clear hR55) | (first | omega | (simp only [IntKind.wrap_i64] at *; omega) | (simp_all; done) | (simp_all; omega)))
            refine runs_cut 1 fun R56 hR56 => ?_
            try simp (maxSteps := 1000000) [runs, gd, step1, need, evu, un, opnds, opv, ev, cst, cst1, cstL, getT, getH, putT, onL, nxt, argT, cellsOf, PV.one, thn, inBlk, jmp, fldP, ldP, ldC, live, Cells.len, Cells.get, Cells.w, sug, ldv, bin, eqF, eq1, ops2, sh2, binv, Tk.agg, stC, apC, rdS, apS, mvL, zp, argsP, idx, fillP, toInts, chunks, mkC, ixS, ixA, oidx, slP, sl0, mxF, bltn, frzA, frz, frzL, frz1, pur1, Cells.pur, PV.scal, scal1, runD, rdO, PV.ids, id1, zids, ety, Eff.on, cnd, minb, and1b, ifmax, ifmin, mxv, sugI, strv, w0, w1, w2, wm1, hspl, List.take_succ_cons, List.take_zero, List.drop_succ_cons, List.drop_zero]
            refine .inl ⟨_, lane_Book_ok se gi (b : Nat) hl5 (by omega), ?_⟩
            try simp (maxSteps := 1000000) [runs, gd, step1, need, evu, un, opnds, opv, ev, cst, cst1, cstL, getT, getH, putT, onL, nxt, argT, cellsOf, PV.one, thn, inBlk, jmp, fldP, ldP, ldC, live, Cells.len, Cells.get, Cells.w, sug, ldv, bin, eqF, eq1, ops2, sh2, binv, Tk.agg, stC, apC, rdS, apS, mvL, zp, argsP, idx, fillP, toInts, chunks, mkC, ixS, ixA, oidx, slP, sl0, mxF, bltn, frzA, frz, frzL, frz1, pur1, Cells.pur, PV.scal, scal1, runD, rdO, PV.ids, id1, zids, ety, Eff.on, cnd, minb, and1b, ifmax, ifmin, mxv, sugI, strv, w0, w1, w2, wm1, hspl]
            repeat' (first | apply And.intro | intro _)
            any_goals (first | (refine hR56 _ ?_; clear hR56) | (first | omega | (simp only [IntKind.wrap_i64] at *; omega) | (simp_all; done) | (simp_all; omega)))
            try simp (maxSteps := 1000000) [runs, gd, step1, need, evu, un, opnds, opv, ev, cst, cst1, cstL, getT, getH, putT, onL, nxt, argT, cellsOf, PV.one, thn, inBlk, jmp, fldP, ldP, ldC, live, Cells.len, Cells.get, Cells.w, sug, ldv, bin, eqF, eq1, ops2, sh2, binv, Tk.agg, stC, apC, rdS, apS, mvL, zp, argsP, idx, fillP, toInts, chunks, mkC, ixS, ixA, oidx, slP, sl0, mxF, bltn, frzA, frz, frzL, frz1, pur1, Cells.pur, PV.scal, scal1, runD, rdO, PV.ids, id1, zids, ety, Eff.on, cnd, minb, and1b, ifmax, ifmin, mxv, sugI, strv, w0, w1, w2, wm1, hspl, List.take_succ_cons, List.take_zero, List.drop_succ_cons, List.drop_zero]
            repeat' (first | apply And.intro | intro _)
            any_goals (first | (refine hK54 _ ?_; clear hK54) | (first | omega | (simp only [IntKind.wrap_i64] at *; omega) | (simp_all; done) | (simp_all; omega)))
            refine swp_seq fun K57 hK57 => ?_
            refine swp_region ty_ok ?_
            try simp (maxSteps := 1000000) [runs, gd, step1, need, evu, un, opnds, opv, ev, cst, cst1, cstL, getT, getH, putT, onL, nxt, argT, cellsOf, PV.one, thn, inBlk, jmp, fldP, ldP, ldC, live, Cells.len, Cells.get, Cells.w, sug, ldv, bin, eqF, eq1, ops2, sh2, binv, Tk.agg, stC, apC, rdS, apS, mvL, zp, argsP, idx, fillP, toInts, chunks, mkC, ixS, ixA, oidx, slP, sl0, mxF, bltn, frzA, frz, frzL, frz1, pur1, Cells.pur, PV.scal, scal1, runD, rdO, PV.ids, id1, zids, ety, Eff.on, cnd, minb, and1b, ifmax, ifmin, mxv, sugI, strv, w0, w1, w2, wm1, hspl]
            repeat' (first | apply And.intro | intro _)
            any_goals (first | (refine hK57 _ ?_; clear hK57) | (first | omega | (simp only [IntKind.wrap_i64] at *; omega) | (simp_all; done) | (simp_all; omega)))
            refine swp_if fun C58 hC58 => ?_
            try simp (maxSteps := 1000000) [runs, gd, step1, need, evu, un, opnds, opv, ev, cst, cst1, cstL, getT, getH, putT, onL, nxt, argT, cellsOf, PV.one, thn, inBlk, jmp, fldP, ldP, ldC, live, Cells.len, Cells.get, Cells.w, sug, ldv, bin, eqF, eq1, ops2, sh2, binv, Tk.agg, stC, apC, rdS, apS, mvL, zp, argsP, idx, fillP, toInts, chunks, mkC, ixS, ixA, oidx, slP, sl0, mxF, bltn, frzA, frz, frzL, frz1, pur1, Cells.pur, PV.scal, scal1, runD, rdO, PV.ids, id1, zids, ety, Eff.on, cnd, minb, and1b, ifmax, ifmin, mxv, sugI, strv, w0, w1, w2, wm1, hspl]
            refine hC58 _ (fun hc58 => ?_) (fun hc58 => ?_)
            · rw [if_pos (by omega)] at hbe
              have hbe0 := hbe.1
              exfalso
              have h := hc58
              simp_all
            · clear hC58
              try simp at hc58
              refine swp_skip ?_
              simp only [thn, inBlk]
              refine hK50 _ ?_; clear hK50
              refine swp_region ty_ok ?_
              try simp (maxSteps := 1000000) [runs, gd, step1, need, evu, un, opnds, opv, ev, cst, cst1, cstL, getT, getH, putT, onL, nxt, argT, cellsOf, PV.one, thn, inBlk, jmp, fldP, ldP, ldC, live, Cells.len, Cells.get, Cells.w, sug, ldv, bin, eqF, eq1, ops2, sh2, binv, Tk.agg, stC, apC, rdS, apS, mvL, zp, argsP, idx, fillP, toInts, chunks, mkC, ixS, ixA, oidx, slP, sl0, mxF, bltn, frzA, frz, frzL, frz1, pur1, Cells.pur, PV.scal, scal1, runD, rdO, PV.ids, id1, zids, ety, Eff.on, cnd, minb, and1b, ifmax, ifmin, mxv, sugI, strv, w0, w1, w2, wm1, hspl]
              repeat' apply And.intro
              any_goals (try omega)
              refine hL46 _ ⟨[(0, .int .i64 rate), (6, .ptr 0 0 0 1), (12, .int .i64 gi), (16, .ptr 6 0 0 1), (19, .int .i64 ((b + 1) : Nat))], [(0, some ⟨.rows 9 [[.int .i64 ga, .int .u8 s, .int .u8 sh, .int .i64 m, .ro (.ints .i64 g), .ro (.rows 1 (se.map fun w => [.ro (.rows 2 (w.map Sc.row))])), .ro (.rows 1 (st.map fun w => [.ro (.ints .i64 w)])), .ro (.rows 1 (tn.map fun w => [.ro (.rows 5 (w.map Fl.row))])), .ro (.ints .i64 ln)]], true, 29⟩), (2, some ⟨.rows 1 ((se.map fun w => [PV.ro (.rows 2 (w.map Sc.row))]).set gi.toNat [.ro (.rows 2 ((spL ws ki.toNat ni).map Sc.row))]), false, 36⟩), (3, some ⟨.rows 1 (st.map fun w => [PV.ro (.ints .i64 w)]), false, 22⟩), (4, some ⟨.rows 1 (tn.map fun w => [PV.ro (.rows 5 (w.map Fl.row))]), false, 33⟩), (5, some ⟨.ints .i64 ln, false, 3⟩), (6, some ⟨.rows 9 [[.int .i64 ga, .int .u8 s, .int .u8 sh, .int .i64 m, .ro (.ints .i64 g), .sl 2 0 se.length se.length, .sl 3 0 st.length st.length, .sl 4 0 tn.length tn.length, .sl 5 0 ln.length ln.length]], true, 29⟩)], 8⟩ _ ?_ ⟨(b + 1), by (first | omega | (simp only [IntKind.wrap_i64] at *; omega) | (simp_all; done) | (simp_all; omega)), rfl, rfl⟩ ⟨by simp [getT, PV.lo, lo1, hbw], by simp [getH, Blk.lo, Cells.lo, lo1], rfl, by omega⟩
              omega
          · clear hC49
            try simp at hc49
            refine swp_exit ?_
            simp [thn, inBlk]
            refine hK44 _ ?_; clear hK44
            refine swp_seq fun K59 hK59 => ?_
            refine swp_region ty_ok ?_
            refine runs_cut 2 fun R60 hR60 => ?_
            try simp (maxSteps := 1000000) [runs, gd, step1, need, evu, un, opnds, opv, ev, cst, cst1, cstL, getT, getH, putT, onL, nxt, argT, cellsOf, PV.one, thn, inBlk, jmp, fldP, ldP, ldC, live, Cells.len, Cells.get, Cells.w, sug, ldv, bin, eqF, eq1, ops2, sh2, binv, Tk.agg, stC, apC, rdS, apS, mvL, zp, argsP, idx, fillP, toInts, chunks, mkC, ixS, ixA, oidx, slP, sl0, mxF, bltn, frzA, frz, frzL, frz1, pur1, Cells.pur, PV.scal, scal1, runD, rdO, PV.ids, id1, zids, ety, Eff.on, cnd, minb, and1b, ifmax, ifmin, mxv, sugI, strv, w0, w1, w2, wm1, hspl, hsl2, List.take_succ_cons, List.take_zero, List.drop_succ_cons, List.drop_zero]
            repeat' (first | apply And.intro | intro _)
            any_goals (first | (refine hR60 _ ?_; clear hR60) | (first | omega | (simp only [IntKind.wrap_i64] at *; omega) | (simp_all; done) | (simp_all; omega)))
            refine runs_cut 1 fun R61 hR61 => ?_
            try simp (maxSteps := 1000000) [runs, gd, step1, need, evu, un, opnds, opv, ev, cst, cst1, cstL, getT, getH, putT, onL, nxt, argT, cellsOf, PV.one, thn, inBlk, jmp, fldP, ldP, ldC, live, Cells.len, Cells.get, Cells.w, sug, ldv, bin, eqF, eq1, ops2, sh2, binv, Tk.agg, stC, apC, rdS, apS, mvL, zp, argsP, idx, fillP, toInts, chunks, mkC, ixS, ixA, oidx, slP, sl0, mxF, bltn, frzA, frz, frzL, frz1, pur1, Cells.pur, PV.scal, scal1, runD, rdO, PV.ids, id1, zids, ety, Eff.on, cnd, minb, and1b, ifmax, ifmin, mxv, sugI, strv, w0, w1, w2, wm1, hspl, hsl2, List.take_succ_cons, List.take_zero, List.drop_succ_cons, List.drop_zero]
            refine .inl ⟨_, (by have h := lane_Check_ok rate ga s sh m g (se.set gi.toNat (spL ws ki.toNat ni)) st tn ln hLs; rw [hcz] at h; simp only [List.map_set] at h; exact h), ?_⟩
            try simp (maxSteps := 1000000) [runs, gd, step1, need, evu, un, opnds, opv, ev, cst, cst1, cstL, getT, getH, putT, onL, nxt, argT, cellsOf, PV.one, thn, inBlk, jmp, fldP, ldP, ldC, live, Cells.len, Cells.get, Cells.w, sug, ldv, bin, eqF, eq1, ops2, sh2, binv, Tk.agg, stC, apC, rdS, apS, mvL, zp, argsP, idx, fillP, toInts, chunks, mkC, ixS, ixA, oidx, slP, sl0, mxF, bltn, frzA, frz, frzL, frz1, pur1, Cells.pur, PV.scal, scal1, runD, rdO, PV.ids, id1, zids, ety, Eff.on, cnd, minb, and1b, ifmax, ifmin, mxv, sugI, strv, w0, w1, w2, wm1, hspl, hsl2]
            repeat' (first | apply And.intro | intro _)
            any_goals (first | (refine hR61 _ ?_; clear hR61) | (first | omega | (simp only [IntKind.wrap_i64] at *; omega) | (simp_all; done) | (simp_all; omega)))
            refine runs_cut 4 fun R62 hR62 => ?_
            try simp (maxSteps := 1000000) [runs, gd, step1, need, evu, un, opnds, opv, ev, cst, cst1, cstL, getT, getH, putT, onL, nxt, argT, cellsOf, PV.one, thn, inBlk, jmp, fldP, ldP, ldC, live, Cells.len, Cells.get, Cells.w, sug, ldv, bin, eqF, eq1, ops2, sh2, binv, Tk.agg, stC, apC, rdS, apS, mvL, zp, argsP, idx, fillP, toInts, chunks, mkC, ixS, ixA, oidx, slP, sl0, mxF, bltn, frzA, frz, frzL, frz1, pur1, Cells.pur, PV.scal, scal1, runD, rdO, PV.ids, id1, zids, ety, Eff.on, cnd, minb, and1b, ifmax, ifmin, mxv, sugI, strv, w0, w1, w2, wm1, hspl, hsl2, List.take_succ_cons, List.take_zero, List.drop_succ_cons, List.drop_zero]
            repeat' (first | apply And.intro | intro _)
            any_goals (first | (refine hR62 _ ?_; clear hR62) | (first | omega | (simp only [IntKind.wrap_i64] at *; omega) | (simp_all; done) | (simp_all; omega)))
            refine runs_cut 1 fun R63 hR63 => ?_
            try simp (maxSteps := 1000000) [runs, gd, step1, need, evu, un, opnds, opv, ev, cst, cst1, cstL, getT, getH, putT, onL, nxt, argT, cellsOf, PV.one, thn, inBlk, jmp, fldP, ldP, ldC, live, Cells.len, Cells.get, Cells.w, sug, ldv, bin, eqF, eq1, ops2, sh2, binv, Tk.agg, stC, apC, rdS, apS, mvL, zp, argsP, idx, fillP, toInts, chunks, mkC, ixS, ixA, oidx, slP, sl0, mxF, bltn, frzA, frz, frzL, frz1, pur1, Cells.pur, PV.scal, scal1, runD, rdO, PV.ids, id1, zids, ety, Eff.on, cnd, minb, and1b, ifmax, ifmin, mxv, sugI, strv, w0, w1, w2, wm1, hspl, hsl2, List.take_succ_cons, List.take_zero, List.drop_succ_cons, List.drop_zero]
            refine .inl ⟨.bool false, by (intros; exact Or.inl (by have h := lsame_ok ga s sh m g (se.set gi.toNat (spL ws ki.toNat ni)) st tn ln ga s sh m g se st tn ln hLs hlnl; rw [same_no (decide_eq_false hsp.ne)] at h; simp only [List.map_set] at h; first | exact ⟨h, rfl⟩ | exact h)), ?_⟩
            repeat' (first | apply And.intro | intro _)
            any_goals (first | (refine hR63 _ ?_; clear hR63) | (first | omega | (simp only [IntKind.wrap_i64] at *; omega) | (simp_all; done) | (simp_all; omega)))
            try simp (maxSteps := 1000000) [runs, gd, step1, need, evu, un, opnds, opv, ev, cst, cst1, cstL, getT, getH, putT, onL, nxt, argT, cellsOf, PV.one, thn, inBlk, jmp, fldP, ldP, ldC, live, Cells.len, Cells.get, Cells.w, sug, ldv, bin, eqF, eq1, ops2, sh2, binv, Tk.agg, stC, apC, rdS, apS, mvL, zp, argsP, idx, fillP, toInts, chunks, mkC, ixS, ixA, oidx, slP, sl0, mxF, bltn, frzA, frz, frzL, frz1, pur1, Cells.pur, PV.scal, scal1, runD, rdO, PV.ids, id1, zids, ety, Eff.on, cnd, minb, and1b, ifmax, ifmin, mxv, sugI, strv, w0, w1, w2, wm1, hspl, hsl2, List.take_succ_cons, List.take_zero, List.drop_succ_cons, List.drop_zero]
            repeat' (first | apply And.intro | intro _)
            any_goals (first | (refine hK59 _ ?_; clear hK59) | (first | omega | (simp only [IntKind.wrap_i64] at *; omega) | (simp_all; done) | (simp_all; omega)))
            refine swp_ret ?_
            simp [runs, gd, step1, need, evu, un, opnds, opv, ev, cst, cst1, cstL, getT, getH, putT, onL, nxt, argT, cellsOf, PV.one, thn, inBlk, jmp, fldP, ldP, ldC, live, Cells.len, Cells.get, Cells.w, sug, ldv, bin, eqF, eq1, ops2, sh2, binv, Tk.agg, stC, apC, rdS, apS, mvL, zp, argsP, idx, fillP, toInts, chunks, mkC, ixS, ixA, oidx, slP, sl0, mxF, bltn, frzA, frz, frzL, frz1, pur1, Cells.pur, PV.scal, scal1, runD, rdO, PV.ids, id1, zids, ety, Eff.on, cnd, minb, and1b, ifmax, ifmin, mxv, sugI, strv, w0, w1, w2, wm1, fnPost, Try.results13, resP, tupOf]

end Go.Proofs.Ytmkgfgdipkagbaa

