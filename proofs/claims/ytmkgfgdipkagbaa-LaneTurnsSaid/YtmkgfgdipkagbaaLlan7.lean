import Derived.Test.YtmkgfgdipkagbaaWb
import Derived.Test.YtmkgfgdipkagbaaTyl
import Derived.Test.YtmkgfgdipkagbaaPvy
import Derived.Test.YtmkgfgdipkagbaaLband
import Derived.Test.YtmkgfgdipkagbaaLinfo
import Derived.Test.YtmkgfgdipkagbaaLinfo2
import Derived.Test.YtmkgfgdipkagbaaLbits
import Derived.Test.YtmkgfgdipkagbaaLtns
import Derived.Test.YtmkgfgdipkagbaaLtnp
import Derived.Test.YtmkgfgdipkagbaaLtnl
import Derived.Test.YtmkgfgdipkagbaaLlan
import Derived.Test.YtmkgfgdipkagbaaLlan2
import Derived.Test.YtmkgfgdipkagbaaLlan3
import Derived.Test.YtmkgfgdipkagbaaLlan4
import Derived.Test.YtmkgfgdipkagbaaLlan5
import Derived.Test.YtmkgfgdipkagbaaLlan6
namespace Go.Proofs.Ytmkgfgdipkagbaa
set_option linter.unusedVariables false
set_option linter.unusedSimpArgs false
set_option maxRecDepth 10000
open Go Go.Pv


open Go.RowKit
theorem range_all_iff {n : Nat} {p : Nat → Bool} : (List.range n).all p = true ↔ ∀ j < n, p j = true := by
  rw [List.all_eq_true]
  exact ⟨fun h j hj => h j (List.mem_range.2 hj), fun h j hj => h j (List.mem_range.1 hj)⟩
theorem linB_iff {O : List Int} {se : List (List Sc)} {m : Int} {g ln : List Int} {n wd : Nat} : linB O se m g ln n wd = true ↔ ln.length = 256 ∧ ∀ w < n, ∀ i < wd, okV O se m (grp g (w : Nat) : Nat) (i : Nat) (ln[w * wd + i]?.getD 0) = true := by
  unfold linB linW
  rw [Bool.and_eq_true, decide_eq_true_eq, range_all_iff]
  exact and_congr_right fun _ => forall_congr' fun w => imp_congr_right fun _ => range_all_iff
theorem fitsB_neg (book v : Int) : fitsB book (-v) = fitsB book v := by
  unfold fitsB
  rw [Bool.or_comm]
  congr 2 <;> exact decide_eq_decide.2 (by omega)
theorem okV_neg {O : List Int} {se : List (List Sc)} {m gi i v : Int} : okV O se m gi i (-v) = okV O se m gi i v := by
  unfold okV
  rw [fitsB_neg]
  congr 1
  exact decide_eq_decide.2 (by omega)
theorem okV_bd {O : List Int} {se : List (List Sc)} {m gi i v : Int} (h : okV O se m gi i v = true) : -8191 ≤ v ∧ v ≤ 8191 := by
  unfold okV at h
  rw [Bool.or_eq_true, Bool.and_eq_true, Bool.and_eq_true, decide_eq_true_eq, decide_eq_true_eq, decide_eq_true_eq] at h
  rcases h with h | ⟨⟨h1, h2⟩, h3⟩
  · omega
  · have hg := (gr_at (book := bkA O se m gi i) (by omega)).2
    unfold fitsB at h3
    rw [Bool.not_eq_true', Bool.or_eq_false_iff, decide_eq_false_iff_not, decide_eq_false_iff_not] at h3
    omega
theorem linB_map {O : List Int} {se : List (List Sc)} {m : Int} {g ln ln' : List Int} {n wd : Nat} (h : linB O se m g ln n wd = true) (hl : ln'.length = 256) (hh : ∀ j : Nat, ln'[j]?.getD 0 = ln[j]?.getD 0 ∨ ln'[j]?.getD 0 = -(ln[j]?.getD 0)) : linB O se m g ln' n wd = true := by
  rw [linB_iff] at h ⊢
  refine ⟨hl, fun w hw i hi => ?_⟩
  rcases hh (w * wd + i) with e | e
  · rw [e]; exact h.2 w hw i hi
  · rw [e, okV_neg]; exact h.2 w hw i hi
theorem linB_bd {O : List Int} {se : List (List Sc)} {m : Int} {g ln : List Int} {n wd : Nat} (h : linB O se m g ln n wd = true) (hn : n * wd = 256) {j : Nat} (hj : j < 256) : -8191 ≤ ln[j]?.getD 0 ∧ ln[j]?.getD 0 ≤ 8191 := by
  rw [linB_iff] at h
  have hwd : 0 < wd := by rcases Nat.eq_zero_or_pos wd with h0 | h0; rw [h0] at hn; omega; exact h0
  have h1 := h.2 (j / wd) ((Nat.div_lt_iff_lt_mul hwd).2 (by omega)) (j % wd) (Nat.mod_lt _ hwd)
  rw [show j / wd * wd + j % wd = j by rw [Nat.mul_comm]; exact Nat.div_add_mod j wd] at h1
  exact okV_bd h1
theorem linC_map {rate s m : Int} {se : List (List Sc)} {g ln ln' : List Int} (h : linC rate s m g se ln = true) (hl : ln'.length = 256) (hh : ∀ j : Nat, ln'[j]?.getD 0 = ln[j]?.getD 0 ∨ ln'[j]?.getD 0 = -(ln[j]?.getD 0)) : linC rate s m g se ln' = true := by
  unfold linC at h ⊢
  split at h
  · next h2 => rw [if_pos h2]; exact linB_map h hl hh
  · next h2 => rw [if_neg h2]; exact linB_map h hl hh
theorem linC_bd {rate s m : Int} {se : List (List Sc)} {g ln : List Int} (h : linC rate s m g se ln = true) {j : Nat} (hj : j < 256) : -8191 ≤ ln[j]?.getD 0 ∧ ln[j]?.getD 0 ≤ 8191 := by
  unfold linC at h
  split at h
  · exact linB_bd h rfl hj
  · exact linB_bd h rfl hj
theorem linC_len {rate s m : Int} {se : List (List Sc)} {g ln : List Int} (h : linC rate s m g se ln = true) : ln.length = 256 := by
  unfold linC at h
  split at h
  · exact (linB_iff.1 h).1
  · exact (linB_iff.1 h).1
theorem linC_big {rate s m : Int} {se : List (List Sc)} {g ln : List Int} {j : Nat} (hj : j < 256) (h : ln[j]?.getD 0 = 8192) : linC rate s m g se ln = false := by
  cases hc : linC rate s m g se ln with
  | false => rfl
  | true => have := linC_bd hc hj; omega
theorem linC_zero {rate s m : Int} {se : List (List Sc)} {g : List Int} : linC rate s m g se zL = true := by
  unfold linC
  split
  · exact linB_zero
  · exact linB_zero
theorem chL_yes {rate ga s sh m : Int} {g : List Int} {se : List (List Sc)} {st : List (List Int)} {tn tn' : List (List Fl)} {ln ln' : List Int} (h : chL rate ga s sh m g se st tn ln = 0) (ht : filA s (winI s sh m g) tn' = true) (hl : linC rate s m g se ln' = true) : chL rate ga s sh m g se st tn' ln' = 0 := by
  obtain ⟨h1, h2, h3, h4, h5, h6⟩ := chL_zero h
  unfold chL
  rw [if_pos h1, if_pos ⟨by rw [decide_eq_true h2.1, decide_eq_true h2.2]; rfl, h3, h4, ht, hl⟩]
theorem chL_bad {rate ga s sh m : Int} {g : List Int} {se : List (List Sc)} {st : List (List Int)} {tn tn' : List (List Fl)} {ln ln' : List Int} (h : chL rate ga s sh m g se st tn ln = 0) (hl : linC rate s m g se ln' = false) : chL rate ga s sh m g se st tn' ln' = 8 := by
  obtain ⟨h1, h2, h3, h4, h5, h6⟩ := chL_zero h
  unfold chL
  rw [if_pos h1, if_neg (fun hh => by rw [hl] at hh; exact absurd hh.2.2.2.2 (by simp))]
def tnK (l : List (List Fl)) : Nat → List (List Fl)
  | 0 => l
  | k + 1 => (tnK l k).set k []
theorem tnK_len (l : List (List Fl)) : ∀ k, (tnK l k).length = l.length
  | 0 => rfl
  | k + 1 => by rw [tnK, List.length_set]; exact tnK_len l k
theorem set_at {α : Type} (l : List α) (k j : Nat) (a d : α) : (l.set k a)[j]?.getD d = if k = j ∧ j < l.length then a else l[j]?.getD d := by
  rw [List.getElem?_set]
  by_cases h : k = j
  · subst h
    by_cases h2 : k < l.length
    · rw [if_pos rfl, if_pos h2, if_pos ⟨rfl, h2⟩]; rfl
    · rw [if_pos rfl, if_neg h2, if_neg (by omega), List.getElem?_eq_none (by omega)]
  · rw [if_neg h, if_neg (by omega)]
theorem tnK_at (l : List (List Fl)) : ∀ k j, (tnK l k)[j]?.getD [] = if j < k then [] else l[j]?.getD []
  | 0, j => rfl
  | k + 1, j => by
    rw [tnK, set_at, tnK_at l k j, tnK_len]
    by_cases h1 : k = j
    · by_cases h2 : j < l.length
      · rw [if_pos ⟨h1, h2⟩, if_pos (by omega)]
      · rw [if_neg (by omega), if_neg (by omega), if_pos (by omega), List.getElem?_eq_none (by omega)]; rfl
    · rw [if_neg (by omega)]
      by_cases h2 : j < k
      · rw [if_pos h2, if_pos (by omega)]
      · rw [if_neg h2, if_neg (by omega)]
theorem tnK_mem {l : List (List Fl)} {k : Nat} (hk : l.length ≤ k) {w : List Fl} (h : w ∈ tnK l k) : w = [] := by
  obtain ⟨j, hj, rfl⟩ := List.getElem_of_mem h
  have := tnK_at l k j
  rw [List.getElem?_eq_getElem hj, if_pos (by rw [tnK_len] at hj; omega)] at this
  exact this
theorem tnK_row (l : List (List Fl)) (k : Nat) : ((tnK l k).map (fun w => [PV.ro (.rows 5 (w.map Fl.row))])).set k [PV.ro (.rows 5 [])] = (tnK l (k + 1)).map (fun w => [PV.ro (.rows 5 (w.map Fl.row))]) := by
  rw [tnK, List.map_set]
  rfl
theorem filA_len {s n : Int} {tn : List (List Fl)} (h : filA s n tn = true) : (tn.length : Int) = n := by
  unfold filA at h
  rw [Bool.and_eq_true, decide_eq_true_eq] at h
  exact h.1
theorem filA_tnK {s n : Int} {tn : List (List Fl)} {k : Nat} (h : filA s n tn = true) (hk : tn.length ≤ k) : filA s n (tnK tn k) = true := by
  unfold filA
  have h1 : (tnK tn k).any (badW s) = false := by
    rw [List.any_eq_false]
    intro w hw
    rw [tnK_mem hk hw]
    have := sz_bd s
    unfold badW
    simp
    omega
  rw [h1, decide_eq_true (by rw [tnK_len]; exact filA_len h)]
  rfl
theorem len_tnK {g : List Int} {se : List (List Sc)} {st : List (List Int)} {tn : List (List Fl)} {k : Nat} (h : LenOk g se st tn) (hk : tn.length ≤ k) : LenOk g se st (tnK tn k) := by
  obtain ⟨⟨h1, h2, h3, h4⟩, h5, h6, h7⟩ := h
  exact ⟨⟨h1, h2, h3, by rw [tnK_len]; exact h4⟩, h5, h6, fun w hw => by rw [tnK_mem hk hw]; exact ⟨by simp, by simp⟩⟩
def ngK (l : List Int) : Nat → List Int
  | 0 => l
  | k + 1 => (ngK l k).set k (-((ngK l k)[k]?.getD 0))
theorem ngK_len (l : List Int) : ∀ k, (ngK l k).length = l.length
  | 0 => rfl
  | k + 1 => by rw [ngK, List.length_set]; exact ngK_len l k
theorem ngK_at (l : List Int) : ∀ k j, (ngK l k)[j]?.getD 0 = if j < k then -(l[j]?.getD 0) else l[j]?.getD 0
  | 0, j => rfl
  | k + 1, j => by
    rw [ngK, set_at, ngK_at l k j, ngK_len, ngK_at l k k]
    by_cases h1 : k = j
    · subst h1
      by_cases h2 : k < l.length
      · rw [if_pos ⟨rfl, h2⟩, if_neg (by omega), if_pos (by omega)]
      · rw [if_neg (by omega), if_neg (by omega), if_pos (by omega), List.getElem?_eq_none (by omega)]; rfl
    · rw [if_neg (by omega)]
      by_cases h2 : j < k
      · rw [if_pos h2, if_pos (by omega)]
      · rw [if_neg h2, if_neg (by omega)]
theorem ngK_lin {rate s m : Int} {se : List (List Sc)} {g ln : List Int} (h : linC rate s m g se ln = true) (k : Nat) : linC rate s m g se (ngK ln k) = true :=
  linC_map h (by rw [ngK_len]; exact linC_len h) fun j => by rw [ngK_at]; split; exact .inr rfl; exact .inl rfl
theorem set_lin {rate s m : Int} {se : List (List Sc)} {g ln : List Int} (h : linC rate s m g se ln = true) (a : Nat) : linC rate s m g se (ln.set a (-(ln[a]?.getD 0))) = true :=
  linC_map h (by rw [List.length_set]; exact linC_len h) fun j => by
    rw [set_at]
    split
    · next hh => rw [hh.1]; exact .inr rfl
    · exact .inl rfl

set_option maxHeartbeats 8000000 in
theorem reedpipelaw18_LaneTurns_ok (rate : Int) (ga s sh m : Int) (g : List Int) (se : List (List Sc)) (st : List (List Int)) (tn : List (List Fl)) (ln : List Int) (a : Int) (ha : 0 ≤ a ∧ a ≤ 255) : PCall Try.prog 11 [.int .i64 rate, .agg [.int .i64 ga, .int .u8 s, .int .u8 sh, .int .i64 m, .ro (.ints .i64 g), .ro (.rows 1 (se.map fun w => [.ro (.rows 2 (w.map Sc.row))])), .ro (.rows 1 (st.map fun w => [.ro (.ints .i64 w)])), .ro (.rows 1 (tn.map fun w => [.ro (.rows 5 (w.map Fl.row))])), .ro (.ints .i64 ln)], .int .u8 a] (.bool true) := by
  refine pcall_body ty_ok Try.func11 rfl (by rfl) (by simp) ?_
  rw [Try.ntmps11]
  refine swp_seq fun K1 hK1 => ?_
  refine swp_region ty_ok ?_
  try simp (maxSteps := 1000000) [runs, gd, step1, need, evu, un, opnds, opv, ev, cst, cst1, cstL, getT, getH, putT, onL, nxt, argT, cellsOf, PV.one, thn, inBlk, jmp, fldP, ldP, ldC, live, Cells.len, Cells.get, Cells.w, sug, ldv, bin, ops2, sh2, binv, Tk.agg, stC, apC, rdS, apS, mvL, zp, argsP, idx, fillP, toInts, chunks, mkC, ixS, ixA, oidx, slP, sl0, mxF, bltn, frzA, frz, frzL, frz1, pur1, Cells.pur, PV.scal, scal1, runD, rdO, PV.ids, id1, zids, ety, Eff.on, cnd, minb, and1b, ifmax, ifmin, mxv, sugI, strv, w0, w1, w2, wm1, tnK_len, ngK_len, zL_eq, zL_len]
  repeat' (first | apply And.intro | intro _)
  any_goals (first | (refine hK1 _ ?_; clear hK1) | (first | omega | (simp only [IntKind.wrap_i64] at *; omega) | (simp_all; done) | (simp_all; omega)))
  refine swp_seq fun K2 hK2 => ?_
  refine swp_region ty_ok ?_
  refine runs_cut 1 fun R3 hR3 => ?_
  try simp (maxSteps := 1000000) [runs, gd, step1, need, evu, un, opnds, opv, ev, cst, cst1, cstL, getT, getH, putT, onL, nxt, argT, cellsOf, PV.one, thn, inBlk, jmp, fldP, ldP, ldC, live, Cells.len, Cells.get, Cells.w, sug, ldv, bin, ops2, sh2, binv, Tk.agg, stC, apC, rdS, apS, mvL, zp, argsP, idx, fillP, toInts, chunks, mkC, ixS, ixA, oidx, slP, sl0, mxF, bltn, frzA, frz, frzL, frz1, pur1, Cells.pur, PV.scal, scal1, runD, rdO, PV.ids, id1, zids, ety, Eff.on, cnd, minb, and1b, ifmax, ifmin, mxv, sugI, strv, w0, w1, w2, wm1, tnK_len, ngK_len, zL_eq, zL_len, List.take_succ_cons, List.take_zero, List.drop_succ_cons, List.drop_zero]
  refine .inl ⟨_, lalive, ?_⟩
  try simp (maxSteps := 1000000) [runs, gd, step1, need, evu, un, opnds, opv, ev, cst, cst1, cstL, getT, getH, putT, onL, nxt, argT, cellsOf, PV.one, thn, inBlk, jmp, fldP, ldP, ldC, live, Cells.len, Cells.get, Cells.w, sug, ldv, bin, ops2, sh2, binv, Tk.agg, stC, apC, rdS, apS, mvL, zp, argsP, idx, fillP, toInts, chunks, mkC, ixS, ixA, oidx, slP, sl0, mxF, bltn, frzA, frz, frzL, frz1, pur1, Cells.pur, PV.scal, scal1, runD, rdO, PV.ids, id1, zids, ety, Eff.on, cnd, minb, and1b, ifmax, ifmin, mxv, sugI, strv, w0, w1, w2, wm1, tnK_len, ngK_len, zL_eq, zL_len]
  repeat' (first | apply And.intro | intro _)
  any_goals (first | (refine hR3 _ ?_; clear hR3) | (first | omega | (simp only [IntKind.wrap_i64] at *; omega) | (simp_all; done) | (simp_all; omega)))
  try simp (maxSteps := 1000000) [runs, gd, step1, need, evu, un, opnds, opv, ev, cst, cst1, cstL, getT, getH, putT, onL, nxt, argT, cellsOf, PV.one, thn, inBlk, jmp, fldP, ldP, ldC, live, Cells.len, Cells.get, Cells.w, sug, ldv, bin, ops2, sh2, binv, Tk.agg, stC, apC, rdS, apS, mvL, zp, argsP, idx, fillP, toInts, chunks, mkC, ixS, ixA, oidx, slP, sl0, mxF, bltn, frzA, frz, frzL, frz1, pur1, Cells.pur, PV.scal, scal1, runD, rdO, PV.ids, id1, zids, ety, Eff.on, cnd, minb, and1b, ifmax, ifmin, mxv, sugI, strv, w0, w1, w2, wm1, tnK_len, ngK_len, zL_eq, zL_len, List.take_succ_cons, List.take_zero, List.drop_succ_cons, List.drop_zero]
  repeat' (first | apply And.intro | intro _)
  any_goals (first | (refine hK2 _ ?_; clear hK2) | (first | omega | (simp only [IntKind.wrap_i64] at *; omega) | (simp_all; done) | (simp_all; omega)))
  refine swp_seq fun K4 hK4 => ?_
  refine swp_seq fun K5 hK5 => ?_
  refine swp_region ty_ok ?_
  refine runs_cut 1 fun R6 hR6 => ?_
  try simp (maxSteps := 1000000) [runs, gd, step1, need, evu, un, opnds, opv, ev, cst, cst1, cstL, getT, getH, putT, onL, nxt, argT, cellsOf, PV.one, thn, inBlk, jmp, fldP, ldP, ldC, live, Cells.len, Cells.get, Cells.w, sug, ldv, bin, ops2, sh2, binv, Tk.agg, stC, apC, rdS, apS, mvL, zp, argsP, idx, fillP, toInts, chunks, mkC, ixS, ixA, oidx, slP, sl0, mxF, bltn, frzA, frz, frzL, frz1, pur1, Cells.pur, PV.scal, scal1, runD, rdO, PV.ids, id1, zids, ety, Eff.on, cnd, minb, and1b, ifmax, ifmin, mxv, sugI, strv, w0, w1, w2, wm1, tnK_len, ngK_len, zL_eq, zL_len, List.take_succ_cons, List.take_zero, List.drop_succ_cons, List.drop_zero]
  repeat' (first | apply And.intro | intro _)
  any_goals (first | (refine hR6 _ ?_; clear hR6) | (first | omega | (simp only [IntKind.wrap_i64] at *; omega) | (simp_all; done) | (simp_all; omega)))
  refine runs_cut 1 fun R7 hR7 => ?_
  try simp (maxSteps := 1000000) [runs, gd, step1, need, evu, un, opnds, opv, ev, cst, cst1, cstL, getT, getH, putT, onL, nxt, argT, cellsOf, PV.one, thn, inBlk, jmp, fldP, ldP, ldC, live, Cells.len, Cells.get, Cells.w, sug, ldv, bin, ops2, sh2, binv, Tk.agg, stC, apC, rdS, apS, mvL, zp, argsP, idx, fillP, toInts, chunks, mkC, ixS, ixA, oidx, slP, sl0, mxF, bltn, frzA, frz, frzL, frz1, pur1, Cells.pur, PV.scal, scal1, runD, rdO, PV.ids, id1, zids, ety, Eff.on, cnd, minb, and1b, ifmax, ifmin, mxv, sugI, strv, w0, w1, w2, wm1, tnK_len, ngK_len, zL_eq, zL_len, List.take_succ_cons, List.take_zero, List.drop_succ_cons, List.drop_zero]
  refine .inl ⟨_, reedpiperef18_Great_ok ga s sh m g se st tn ln, ?_⟩
  try simp (maxSteps := 1000000) [runs, gd, step1, need, evu, un, opnds, opv, ev, cst, cst1, cstL, getT, getH, putT, onL, nxt, argT, cellsOf, PV.one, thn, inBlk, jmp, fldP, ldP, ldC, live, Cells.len, Cells.get, Cells.w, sug, ldv, bin, ops2, sh2, binv, Tk.agg, stC, apC, rdS, apS, mvL, zp, argsP, idx, fillP, toInts, chunks, mkC, ixS, ixA, oidx, slP, sl0, mxF, bltn, frzA, frz, frzL, frz1, pur1, Cells.pur, PV.scal, scal1, runD, rdO, PV.ids, id1, zids, ety, Eff.on, cnd, minb, and1b, ifmax, ifmin, mxv, sugI, strv, w0, w1, w2, wm1, tnK_len, ngK_len, zL_eq, zL_len]
  repeat' (first | apply And.intro | intro _)
  any_goals (first | (refine hR7 _ ?_; clear hR7) | (first | omega | (simp only [IntKind.wrap_i64] at *; omega) | (simp_all; done) | (simp_all; omega)))
  refine runs_cut 3 fun R8 hR8 => ?_
  try simp (maxSteps := 1000000) [runs, gd, step1, need, evu, un, opnds, opv, ev, cst, cst1, cstL, getT, getH, putT, onL, nxt, argT, cellsOf, PV.one, thn, inBlk, jmp, fldP, ldP, ldC, live, Cells.len, Cells.get, Cells.w, sug, ldv, bin, ops2, sh2, binv, Tk.agg, stC, apC, rdS, apS, mvL, zp, argsP, idx, fillP, toInts, chunks, mkC, ixS, ixA, oidx, slP, sl0, mxF, bltn, frzA, frz, frzL, frz1, pur1, Cells.pur, PV.scal, scal1, runD, rdO, PV.ids, id1, zids, ety, Eff.on, cnd, minb, and1b, ifmax, ifmin, mxv, sugI, strv, w0, w1, w2, wm1, tnK_len, ngK_len, zL_eq, zL_len, List.take_succ_cons, List.take_zero, List.drop_succ_cons, List.drop_zero]
  repeat' (first | apply And.intro | intro _)
  any_goals (first | (refine hR8 _ ?_; clear hR8) | (first | omega | (simp only [IntKind.wrap_i64] at *; omega) | (simp_all; done) | (simp_all; omega)))
  refine runs_cut 1 fun R9 hR9 => ?_
  try simp (maxSteps := 1000000) [runs, gd, step1, need, evu, un, opnds, opv, ev, cst, cst1, cstL, getT, getH, putT, onL, nxt, argT, cellsOf, PV.one, thn, inBlk, jmp, fldP, ldP, ldC, live, Cells.len, Cells.get, Cells.w, sug, ldv, bin, ops2, sh2, binv, Tk.agg, stC, apC, rdS, apS, mvL, zp, argsP, idx, fillP, toInts, chunks, mkC, ixS, ixA, oidx, slP, sl0, mxF, bltn, frzA, frz, frzL, frz1, pur1, Cells.pur, PV.scal, scal1, runD, rdO, PV.ids, id1, zids, ety, Eff.on, cnd, minb, and1b, ifmax, ifmin, mxv, sugI, strv, w0, w1, w2, wm1, tnK_len, ngK_len, zL_eq, zL_len, List.take_succ_cons, List.take_zero, List.drop_succ_cons, List.drop_zero]
  refine .inl ⟨_, by (intros; exact Or.inl (lane_Check_ok rate ga s sh m g se st tn ln (gr_len (ln := ln) (by simp_all)))), ?_⟩
  repeat' (first | apply And.intro | intro _)
  any_goals (first | (refine hR9 _ ?_; clear hR9) | (first | omega | (simp only [IntKind.wrap_i64] at *; omega) | (simp_all; done) | (simp_all; omega)))
  try simp (maxSteps := 1000000) [runs, gd, step1, need, evu, un, opnds, opv, ev, cst, cst1, cstL, getT, getH, putT, onL, nxt, argT, cellsOf, PV.one, thn, inBlk, jmp, fldP, ldP, ldC, live, Cells.len, Cells.get, Cells.w, sug, ldv, bin, ops2, sh2, binv, Tk.agg, stC, apC, rdS, apS, mvL, zp, argsP, idx, fillP, toInts, chunks, mkC, ixS, ixA, oidx, slP, sl0, mxF, bltn, frzA, frz, frzL, frz1, pur1, Cells.pur, PV.scal, scal1, runD, rdO, PV.ids, id1, zids, ety, Eff.on, cnd, minb, and1b, ifmax, ifmin, mxv, sugI, strv, w0, w1, w2, wm1, tnK_len, ngK_len, zL_eq, zL_len, List.take_succ_cons, List.take_zero, List.drop_succ_cons, List.drop_zero]
  repeat' (first | apply And.intro | intro _)
  any_goals (first | (refine hK5 _ ?_; clear hK5) | (first | omega | (simp only [IntKind.wrap_i64] at *; omega) | (simp_all; done) | (simp_all; omega)))
  refine swp_if fun C10 hC10 => ?_
  try simp (maxSteps := 1000000) [runs, gd, step1, need, evu, un, opnds, opv, ev, cst, cst1, cstL, getT, getH, putT, onL, nxt, argT, cellsOf, PV.one, thn, inBlk, jmp, fldP, ldP, ldC, live, Cells.len, Cells.get, Cells.w, sug, ldv, bin, ops2, sh2, binv, Tk.agg, stC, apC, rdS, apS, mvL, zp, argsP, idx, fillP, toInts, chunks, mkC, ixS, ixA, oidx, slP, sl0, mxF, bltn, frzA, frz, frzL, frz1, pur1, Cells.pur, PV.scal, scal1, runD, rdO, PV.ids, id1, zids, ety, Eff.on, cnd, minb, and1b, ifmax, ifmin, mxv, sugI, strv, w0, w1, w2, wm1, tnK_len, ngK_len, zL_eq, zL_len]
  refine hC10 _ (fun hc10 => ?_) (fun hc10 => ?_)
  · clear hC10
    try simp at hc10
    refine swp_seq fun K11 hK11 => ?_
    refine swp_region ty_ok ?_
    try simp (maxSteps := 1000000) [runs, gd, step1, need, evu, un, opnds, opv, ev, cst, cst1, cstL, getT, getH, putT, onL, nxt, argT, cellsOf, PV.one, thn, inBlk, jmp, fldP, ldP, ldC, live, Cells.len, Cells.get, Cells.w, sug, ldv, bin, ops2, sh2, binv, Tk.agg, stC, apC, rdS, apS, mvL, zp, argsP, idx, fillP, toInts, chunks, mkC, ixS, ixA, oidx, slP, sl0, mxF, bltn, frzA, frz, frzL, frz1, pur1, Cells.pur, PV.scal, scal1, runD, rdO, PV.ids, id1, zids, ety, Eff.on, cnd, minb, and1b, ifmax, ifmin, mxv, sugI, strv, w0, w1, w2, wm1, tnK_len, ngK_len, zL_eq, zL_len]
    repeat' (first | apply And.intro | intro _)
    any_goals (first | (refine hK11 _ ?_; clear hK11) | (first | omega | (simp only [IntKind.wrap_i64] at *; omega) | (simp_all; done) | (simp_all; omega)))
    refine swp_ret ?_
    simp [runs, gd, step1, need, evu, un, opnds, opv, ev, cst, cst1, cstL, getT, getH, putT, onL, nxt, argT, cellsOf, PV.one, thn, inBlk, jmp, fldP, ldP, ldC, live, Cells.len, Cells.get, Cells.w, sug, ldv, bin, ops2, sh2, binv, Tk.agg, stC, apC, rdS, apS, mvL, zp, argsP, idx, fillP, toInts, chunks, mkC, ixS, ixA, oidx, slP, sl0, mxF, bltn, frzA, frz, frzL, frz1, pur1, Cells.pur, PV.scal, scal1, runD, rdO, PV.ids, id1, zids, ety, Eff.on, cnd, minb, and1b, ifmax, ifmin, mxv, sugI, strv, w0, w1, w2, wm1, fnPost, Try.results11, resP, tupOf]
  · clear hC10
    try simp at hc10
    refine swp_skip ?_
    simp only [thn, inBlk]
    refine hK4 _ ?_; clear hK4
    refine swp_seq fun K12 hK12 => ?_
    have hgr : grC g se st tn ln = false := (by have h := hc10; simp_all)
    have hz : chL rate ga s sh m g se st tn ln = 0 := (by have h := hc10; simp_all)
    have hLk := gr_len hgr
    have hLk2 := hLk
    obtain ⟨⟨hl1, hl2, hl3, hl4⟩, hl5, hl6, hl7⟩ := hLk2
    obtain ⟨_, hgab, _, _, hfil, hlin⟩ := chL_zero hz
    have hln := linC_len hlin
    have hvb := linC_bd hlin (j := a.toNat) (by omega)
    have hvn : IntKind.i64.wrap (-(ln[a.toNat]?.getD 0)) = -(ln[a.toNat]?.getD 0) := w64 (by omega)
    refine swp_region ty_ok ?_
    refine runs_cut 1 fun R13 hR13 => ?_
    try simp (maxSteps := 1000000) [runs, gd, step1, need, evu, un, opnds, opv, ev, cst, cst1, cstL, getT, getH, putT, onL, nxt, argT, cellsOf, PV.one, thn, inBlk, jmp, fldP, ldP, ldC, live, Cells.len, Cells.get, Cells.w, sug, ldv, bin, ops2, sh2, binv, Tk.agg, stC, apC, rdS, apS, mvL, zp, argsP, idx, fillP, toInts, chunks, mkC, ixS, ixA, oidx, slP, sl0, mxF, bltn, frzA, frz, frzL, frz1, pur1, Cells.pur, PV.scal, scal1, runD, rdO, PV.ids, id1, zids, ety, Eff.on, cnd, minb, and1b, ifmax, ifmin, mxv, sugI, strv, w0, w1, w2, wm1, tnK_len, ngK_len, zL_eq, zL_len, List.take_succ_cons, List.take_zero, List.drop_succ_cons, List.drop_zero]
    repeat' (first | apply And.intro | intro _)
    any_goals (first | (refine hR13 _ ?_; clear hR13) | (first | omega | (simp only [IntKind.wrap_i64] at *; omega) | (simp_all; done) | (simp_all; omega)))
    refine runs_cut 1 fun R14 hR14 => ?_
    try simp (maxSteps := 1000000) [runs, gd, step1, need, evu, un, opnds, opv, ev, cst, cst1, cstL, getT, getH, putT, onL, nxt, argT, cellsOf, PV.one, thn, inBlk, jmp, fldP, ldP, ldC, live, Cells.len, Cells.get, Cells.w, sug, ldv, bin, ops2, sh2, binv, Tk.agg, stC, apC, rdS, apS, mvL, zp, argsP, idx, fillP, toInts, chunks, mkC, ixS, ixA, oidx, slP, sl0, mxF, bltn, frzA, frz, frzL, frz1, pur1, Cells.pur, PV.scal, scal1, runD, rdO, PV.ids, id1, zids, ety, Eff.on, cnd, minb, and1b, ifmax, ifmin, mxv, sugI, strv, w0, w1, w2, wm1, tnK_len, ngK_len, zL_eq, zL_len, List.take_succ_cons, List.take_zero, List.drop_succ_cons, List.drop_zero]
    refine .inr (hcl_mk (tw1 ga s sh m g se st tn ln hLk (by omega)) (by simp [PV.ids, id1, getH, Blk.inL, Cells.inL, inL1]) (by simp [PV.inL, inL1]) (by simp) ?_)
    try simp (maxSteps := 1000000) [runs, gd, step1, need, evu, un, opnds, opv, ev, cst, cst1, cstL, getT, getH, putT, onL, nxt, argT, cellsOf, PV.one, thn, inBlk, jmp, fldP, ldP, ldC, live, Cells.len, Cells.get, Cells.w, sug, ldv, bin, ops2, sh2, binv, Tk.agg, stC, apC, rdS, apS, mvL, zp, argsP, idx, fillP, toInts, chunks, mkC, ixS, ixA, oidx, slP, sl0, mxF, bltn, frzA, frz, frzL, frz1, pur1, Cells.pur, PV.scal, scal1, runD, rdO, PV.ids, id1, zids, ety, Eff.on, cnd, minb, and1b, ifmax, ifmin, mxv, sugI, strv, w0, w1, w2, wm1, tnK_len, ngK_len, zL_eq, zL_len]
    repeat' (first | apply And.intro | intro _)
    any_goals (first | (refine hR14 _ ?_; clear hR14) | (first | omega | (simp only [IntKind.wrap_i64] at *; omega) | (simp_all; done) | (simp_all; omega)))
    try simp (maxSteps := 1000000) [runs, gd, step1, need, evu, un, opnds, opv, ev, cst, cst1, cstL, getT, getH, putT, onL, nxt, argT, cellsOf, PV.one, thn, inBlk, jmp, fldP, ldP, ldC, live, Cells.len, Cells.get, Cells.w, sug, ldv, bin, ops2, sh2, binv, Tk.agg, stC, apC, rdS, apS, mvL, zp, argsP, idx, fillP, toInts, chunks, mkC, ixS, ixA, oidx, slP, sl0, mxF, bltn, frzA, frz, frzL, frz1, pur1, Cells.pur, PV.scal, scal1, runD, rdO, PV.ids, id1, zids, ety, Eff.on, cnd, minb, and1b, ifmax, ifmin, mxv, sugI, strv, w0, w1, w2, wm1, tnK_len, ngK_len, zL_eq, zL_len, List.take_succ_cons, List.take_zero, List.drop_succ_cons, List.drop_zero]
    repeat' (first | apply And.intro | intro _)
    any_goals (first | (refine hK12 _ ?_; clear hK12) | (first | omega | (simp only [IntKind.wrap_i64] at *; omega) | (simp_all; done) | (simp_all; omega)))
    refine swp_seq fun K15 hK15 => ?_
    refine swp_draw ty_ok mixed (ms := [0, 1, 0, 0, 8, 0, 56, 120, 248, 511, 1023]) (by kernel_rfl) ?_
    try simp (maxSteps := 1000000) [runs, gd, step1, need, evu, un, opnds, opv, ev, cst, cst1, cstL, getT, getH, putT, onL, nxt, argT, cellsOf, PV.one, thn, inBlk, jmp, fldP, ldP, ldC, live, Cells.len, Cells.get, Cells.w, sug, ldv, bin, ops2, sh2, binv, Tk.agg, stC, apC, rdS, apS, mvL, zp, argsP, idx, fillP, toInts, chunks, mkC, ixS, ixA, oidx, slP, sl0, mxF, bltn, frzA, frz, frzL, frz1, pur1, Cells.pur, PV.scal, scal1, runD, rdO, PV.ids, id1, zids, ety, Eff.on, cnd, minb, and1b, ifmax, ifmin, mxv, sugI, strv, w0, w1, w2, wm1, tnK_len, ngK_len, zL_eq, zL_len, hvn]
    repeat' (first | apply And.intro | intro _)
    any_goals (first | kernel_rfl | (refine hK15 _ ?_; clear hK15) | (first | omega | (simp only [IntKind.wrap_i64] at *; omega) | (simp_all; done) | (simp_all; omega)))
    refine swp_seq fun K17 hK17 => ?_
    refine swp_seq fun K18 hK18 => ?_
    refine swp_region ty_ok ?_
    try simp (maxSteps := 1000000) [runs, gd, step1, need, evu, un, opnds, opv, ev, cst, cst1, cstL, getT, getH, putT, onL, nxt, argT, cellsOf, PV.one, thn, inBlk, jmp, fldP, ldP, ldC, live, Cells.len, Cells.get, Cells.w, sug, ldv, bin, ops2, sh2, binv, Tk.agg, stC, apC, rdS, apS, mvL, zp, argsP, idx, fillP, toInts, chunks, mkC, ixS, ixA, oidx, slP, sl0, mxF, bltn, frzA, frz, frzL, frz1, pur1, Cells.pur, PV.scal, scal1, runD, rdO, PV.ids, id1, zids, ety, Eff.on, cnd, minb, and1b, ifmax, ifmin, mxv, sugI, strv, w0, w1, w2, wm1, tnK_len, ngK_len, zL_eq, zL_len]
    repeat' (first | apply And.intro | intro _)
    any_goals (first | (refine hK18 _ ?_; clear hK18) | (first | omega | (simp only [IntKind.wrap_i64] at *; omega) | (simp_all; done) | (simp_all; omega)))
    refine swp_block ?_
    refine swp_loop 94 (fun m_ s_ => ∃ (k : Nat), (k ≤ tn.length) ∧ s_ = ⟨[(0, .int .i64 rate), (2, .int .u8 a), (4, .ptr 0 0 0 1), (7, .bool true), (8, .ptr 5 0 0 1), (9, .int .i64 (k : Nat))], [(0, some ⟨.rows 9 [[.int .i64 ga, .int .u8 s, .int .u8 sh, .int .i64 m, .ro (.ints .i64 g), .ro (.rows 1 (se.map fun w => [.ro (.rows 2 (w.map Sc.row))])), .ro (.rows 1 (st.map fun w => [.ro (.ints .i64 w)])), .ro (.rows 1 (tn.map fun w => [.ro (.rows 5 (w.map Fl.row))])), .ro (.ints .i64 ln)]], true, 29⟩), (1, some ⟨.rows 1 (se.map fun w => [PV.ro (.rows 2 (w.map Sc.row))]), false, 36⟩), (2, some ⟨.rows 1 (st.map fun w => [PV.ro (.ints .i64 w)]), false, 22⟩), (3, some ⟨.rows 1 ((tnK tn k).map fun w => [PV.ro (.rows 5 (w.map Fl.row))]), false, 33⟩), (4, some ⟨.ints .i64 (ln.set a.toNat (-(ln[a.toNat]?.getD 0))), false, 3⟩), (5, some ⟨.rows 9 [[.int .i64 ga, .int .u8 s, .int .u8 sh, .int .i64 m, .ro (.ints .i64 g), .sl 1 0 se.length se.length, .sl 2 0 st.length st.length, .sl 3 0 tn.length tn.length, .sl 4 0 ln.length ln.length]], true, 29⟩)], 94⟩ ∧ m_ = tn.length - k) _ ⟨[(0, .int .i64 rate), (2, .int .u8 a), (4, .ptr 0 0 0 1), (7, .bool true), (8, .ptr 5 0 0 1), (9, .int .i64 (0 : Nat))], [(0, some ⟨.rows 9 [[.int .i64 ga, .int .u8 s, .int .u8 sh, .int .i64 m, .ro (.ints .i64 g), .ro (.rows 1 (se.map fun w => [.ro (.rows 2 (w.map Sc.row))])), .ro (.rows 1 (st.map fun w => [.ro (.ints .i64 w)])), .ro (.rows 1 (tn.map fun w => [.ro (.rows 5 (w.map Fl.row))])), .ro (.ints .i64 ln)]], true, 29⟩), (1, some ⟨.rows 1 (se.map fun w => [PV.ro (.rows 2 (w.map Sc.row))]), false, 36⟩), (2, some ⟨.rows 1 (st.map fun w => [PV.ro (.ints .i64 w)]), false, 22⟩), (3, some ⟨.rows 1 ((tnK tn 0).map fun w => [PV.ro (.rows 5 (w.map Fl.row))]), false, 33⟩), (4, some ⟨.ints .i64 (ln.set a.toNat (-(ln[a.toNat]?.getD 0))), false, 3⟩), (5, some ⟨.rows 9 [[.int .i64 ga, .int .u8 s, .int .u8 sh, .int .i64 m, .ro (.ints .i64 g), .sl 1 0 se.length se.length, .sl 2 0 st.length st.length, .sl 3 0 tn.length tn.length, .sl 4 0 ln.length ln.length]], true, 29⟩)], 94⟩ ⟨by simp [getT, PV.lo, lo1], by simp [getH, Blk.lo, Cells.lo, lo1, tnK], rfl, by omega⟩ ⟨(0), by (first | omega | (simp only [IntKind.wrap_i64] at *; omega) | (simp_all; done) | (simp_all; omega)), rfl, rfl⟩ ?_
    rintro m_ s_ ⟨k, hL19_0, rfl, rfl⟩ KL19 hL19
    have hkw : IntKind.i64.wrap ((k : Int) + 1) = (((k + 1 : Nat)) : Int) := wnext (by omega)
    refine swp_seq fun K20 hK20 => ?_
    refine swp_seq fun K21 hK21 => ?_
    refine swp_region ty_ok ?_
    try simp (maxSteps := 1000000) [runs, gd, step1, need, evu, un, opnds, opv, ev, cst, cst1, cstL, getT, getH, putT, onL, nxt, argT, cellsOf, PV.one, thn, inBlk, jmp, fldP, ldP, ldC, live, Cells.len, Cells.get, Cells.w, sug, ldv, bin, ops2, sh2, binv, Tk.agg, stC, apC, rdS, apS, mvL, zp, argsP, idx, fillP, toInts, chunks, mkC, ixS, ixA, oidx, slP, sl0, mxF, bltn, frzA, frz, frzL, frz1, pur1, Cells.pur, PV.scal, scal1, runD, rdO, PV.ids, id1, zids, ety, Eff.on, cnd, minb, and1b, ifmax, ifmin, mxv, sugI, strv, w0, w1, w2, wm1, tnK_len, ngK_len, zL_eq, zL_len]
    repeat' (first | apply And.intro | intro _)
    any_goals (first | (refine hK21 _ ?_; clear hK21) | (first | omega | (simp only [IntKind.wrap_i64] at *; omega) | (simp_all; done) | (simp_all; omega)))
    refine swp_if fun C22 hC22 => ?_
    try simp (maxSteps := 1000000) [runs, gd, step1, need, evu, un, opnds, opv, ev, cst, cst1, cstL, getT, getH, putT, onL, nxt, argT, cellsOf, PV.one, thn, inBlk, jmp, fldP, ldP, ldC, live, Cells.len, Cells.get, Cells.w, sug, ldv, bin, ops2, sh2, binv, Tk.agg, stC, apC, rdS, apS, mvL, zp, argsP, idx, fillP, toInts, chunks, mkC, ixS, ixA, oidx, slP, sl0, mxF, bltn, frzA, frz, frzL, frz1, pur1, Cells.pur, PV.scal, scal1, runD, rdO, PV.ids, id1, zids, ety, Eff.on, cnd, minb, and1b, ifmax, ifmin, mxv, sugI, strv, w0, w1, w2, wm1, tnK_len, ngK_len, zL_eq, zL_len]
    refine hC22 _ (fun hc22 => ?_) (fun hc22 => ?_)
    · clear hC22
      try simp at hc22
      refine swp_skip ?_
      simp only [thn, inBlk]
      refine hK20 _ ?_; clear hK20
      refine swp_seq fun K23 hK23 => ?_
      refine swp_block ?_
      have hrt := w_at (l := tnK tn k) (k := k) (by rw [tnK_len]; omega)
      refine swp_region ty_ok ?_
      try simp (maxSteps := 1000000) [runs, gd, step1, need, evu, un, opnds, opv, ev, cst, cst1, cstL, getT, getH, putT, onL, nxt, argT, cellsOf, PV.one, thn, inBlk, jmp, fldP, ldP, ldC, live, Cells.len, Cells.get, Cells.w, sug, ldv, bin, ops2, sh2, binv, Tk.agg, stC, apC, rdS, apS, mvL, zp, argsP, idx, fillP, toInts, chunks, mkC, ixS, ixA, oidx, slP, sl0, mxF, bltn, frzA, frz, frzL, frz1, pur1, Cells.pur, PV.scal, scal1, runD, rdO, PV.ids, id1, zids, ety, Eff.on, cnd, minb, and1b, ifmax, ifmin, mxv, sugI, strv, w0, w1, w2, wm1, tnK_len, ngK_len, zL_eq, zL_len, hrt]
      repeat' (first | apply And.intro | intro _)
      any_goals (first | (refine hK23 _ ?_; clear hK23) | (first | omega | (simp only [IntKind.wrap_i64] at *; omega) | (simp_all; done) | (simp_all; omega)))
      refine swp_region ty_ok ?_
      try simp (maxSteps := 1000000) [runs, gd, step1, need, evu, un, opnds, opv, ev, cst, cst1, cstL, getT, getH, putT, onL, nxt, argT, cellsOf, PV.one, thn, inBlk, jmp, fldP, ldP, ldC, live, Cells.len, Cells.get, Cells.w, sug, ldv, bin, ops2, sh2, binv, Tk.agg, stC, apC, rdS, apS, mvL, zp, argsP, idx, fillP, toInts, chunks, mkC, ixS, ixA, oidx, slP, sl0, mxF, bltn, frzA, frz, frzL, frz1, pur1, Cells.pur, PV.scal, scal1, runD, rdO, PV.ids, id1, zids, ety, Eff.on, cnd, minb, and1b, ifmax, ifmin, mxv, sugI, strv, w0, w1, w2, wm1, tnK_len, ngK_len, zL_eq, zL_len]
      repeat' apply And.intro
      any_goals (try omega)
      refine hL19 _ ⟨[(0, .int .i64 rate), (2, .int .u8 a), (4, .ptr 0 0 0 1), (7, .bool true), (8, .ptr 5 0 0 1), (9, .int .i64 ((k + 1) : Nat))], [(0, some ⟨.rows 9 [[.int .i64 ga, .int .u8 s, .int .u8 sh, .int .i64 m, .ro (.ints .i64 g), .ro (.rows 1 (se.map fun w => [.ro (.rows 2 (w.map Sc.row))])), .ro (.rows 1 (st.map fun w => [.ro (.ints .i64 w)])), .ro (.rows 1 (tn.map fun w => [.ro (.rows 5 (w.map Fl.row))])), .ro (.ints .i64 ln)]], true, 29⟩), (1, some ⟨.rows 1 (se.map fun w => [PV.ro (.rows 2 (w.map Sc.row))]), false, 36⟩), (2, some ⟨.rows 1 (st.map fun w => [PV.ro (.ints .i64 w)]), false, 22⟩), (3, some ⟨.rows 1 ((tnK tn (k + 1)).map fun w => [PV.ro (.rows 5 (w.map Fl.row))]), false, 33⟩), (4, some ⟨.ints .i64 (ln.set a.toNat (-(ln[a.toNat]?.getD 0))), false, 3⟩), (5, some ⟨.rows 9 [[.int .i64 ga, .int .u8 s, .int .u8 sh, .int .i64 m, .ro (.ints .i64 g), .sl 1 0 se.length se.length, .sl 2 0 st.length st.length, .sl 3 0 tn.length tn.length, .sl 4 0 ln.length ln.length]], true, 29⟩)], 94⟩ _ ?_ ⟨(k + 1), by (first | omega | (simp only [IntKind.wrap_i64] at *; omega) | (simp_all; done) | (simp_all; omega)), rfl, rfl⟩ ⟨by simp [getT, PV.lo, lo1, hkw], by simp [getH, Blk.lo, Cells.lo, lo1, tnK_row], rfl, by omega⟩
      omega
    · clear hC22
      try simp at hc22
      refine swp_exit ?_
      simp [thn, inBlk]
      refine hK17 _ ?_; clear hK17
      refine swp_seq fun K24 hK24 => ?_
      refine swp_region ty_ok ?_
      refine runs_cut 2 fun R25 hR25 => ?_
      try simp (maxSteps := 1000000) [runs, gd, step1, need, evu, un, opnds, opv, ev, cst, cst1, cstL, getT, getH, putT, onL, nxt, argT, cellsOf, PV.one, thn, inBlk, jmp, fldP, ldP, ldC, live, Cells.len, Cells.get, Cells.w, sug, ldv, bin, ops2, sh2, binv, Tk.agg, stC, apC, rdS, apS, mvL, zp, argsP, idx, fillP, toInts, chunks, mkC, ixS, ixA, oidx, slP, sl0, mxF, bltn, frzA, frz, frzL, frz1, pur1, Cells.pur, PV.scal, scal1, runD, rdO, PV.ids, id1, zids, ety, Eff.on, cnd, minb, and1b, ifmax, ifmin, mxv, sugI, strv, w0, w1, w2, wm1, tnK_len, ngK_len, zL_eq, zL_len, List.take_succ_cons, List.take_zero, List.drop_succ_cons, List.drop_zero]
      repeat' (first | apply And.intro | intro _)
      any_goals (first | (refine hR25 _ ?_; clear hR25) | (first | omega | (simp only [IntKind.wrap_i64] at *; omega) | (simp_all; done) | (simp_all; omega)))
      refine runs_cut 1 fun R26 hR26 => ?_
      try simp (maxSteps := 1000000) [runs, gd, step1, need, evu, un, opnds, opv, ev, cst, cst1, cstL, getT, getH, putT, onL, nxt, argT, cellsOf, PV.one, thn, inBlk, jmp, fldP, ldP, ldC, live, Cells.len, Cells.get, Cells.w, sug, ldv, bin, ops2, sh2, binv, Tk.agg, stC, apC, rdS, apS, mvL, zp, argsP, idx, fillP, toInts, chunks, mkC, ixS, ixA, oidx, slP, sl0, mxF, bltn, frzA, frz, frzL, frz1, pur1, Cells.pur, PV.scal, scal1, runD, rdO, PV.ids, id1, zids, ety, Eff.on, cnd, minb, and1b, ifmax, ifmin, mxv, sugI, strv, w0, w1, w2, wm1, tnK_len, ngK_len, zL_eq, zL_len, List.take_succ_cons, List.take_zero, List.drop_succ_cons, List.drop_zero]
      refine .inl ⟨_, (by have h := lane_Check_ok rate ga s sh m g se st (tnK tn k) (ln.set a.toNat (-(ln[a.toNat]?.getD 0))) (len_tnK hLk (by omega)); rw [chL_yes hz (filA_tnK hfil (by omega)) (set_lin hlin _)] at h; exact h), ?_⟩
      try simp (maxSteps := 1000000) [runs, gd, step1, need, evu, un, opnds, opv, ev, cst, cst1, cstL, getT, getH, putT, onL, nxt, argT, cellsOf, PV.one, thn, inBlk, jmp, fldP, ldP, ldC, live, Cells.len, Cells.get, Cells.w, sug, ldv, bin, ops2, sh2, binv, Tk.agg, stC, apC, rdS, apS, mvL, zp, argsP, idx, fillP, toInts, chunks, mkC, ixS, ixA, oidx, slP, sl0, mxF, bltn, frzA, frz, frzL, frz1, pur1, Cells.pur, PV.scal, scal1, runD, rdO, PV.ids, id1, zids, ety, Eff.on, cnd, minb, and1b, ifmax, ifmin, mxv, sugI, strv, w0, w1, w2, wm1, tnK_len, ngK_len, zL_eq, zL_len]
      repeat' (first | apply And.intro | intro _)
      any_goals (first | (refine hR26 _ ?_; clear hR26) | (first | omega | (simp only [IntKind.wrap_i64] at *; omega) | (simp_all; done) | (simp_all; omega)))
      try simp (maxSteps := 1000000) [runs, gd, step1, need, evu, un, opnds, opv, ev, cst, cst1, cstL, getT, getH, putT, onL, nxt, argT, cellsOf, PV.one, thn, inBlk, jmp, fldP, ldP, ldC, live, Cells.len, Cells.get, Cells.w, sug, ldv, bin, ops2, sh2, binv, Tk.agg, stC, apC, rdS, apS, mvL, zp, argsP, idx, fillP, toInts, chunks, mkC, ixS, ixA, oidx, slP, sl0, mxF, bltn, frzA, frz, frzL, frz1, pur1, Cells.pur, PV.scal, scal1, runD, rdO, PV.ids, id1, zids, ety, Eff.on, cnd, minb, and1b, ifmax, ifmin, mxv, sugI, strv, w0, w1, w2, wm1, tnK_len, ngK_len, zL_eq, zL_len, List.take_succ_cons, List.take_zero, List.drop_succ_cons, List.drop_zero]
      repeat' (first | apply And.intro | intro _)
      any_goals (first | (refine hK24 _ ?_; clear hK24) | (first | omega | (simp only [IntKind.wrap_i64] at *; omega) | (simp_all; done) | (simp_all; omega)))
      refine swp_seq fun K27 hK27 => ?_
      refine swp_region ty_ok ?_
      try simp (maxSteps := 1000000) [runs, gd, step1, need, evu, un, opnds, opv, ev, cst, cst1, cstL, getT, getH, putT, onL, nxt, argT, cellsOf, PV.one, thn, inBlk, jmp, fldP, ldP, ldC, live, Cells.len, Cells.get, Cells.w, sug, ldv, bin, ops2, sh2, binv, Tk.agg, stC, apC, rdS, apS, mvL, zp, argsP, idx, fillP, toInts, chunks, mkC, ixS, ixA, oidx, slP, sl0, mxF, bltn, frzA, frz, frzL, frz1, pur1, Cells.pur, PV.scal, scal1, runD, rdO, PV.ids, id1, zids, ety, Eff.on, cnd, minb, and1b, ifmax, ifmin, mxv, sugI, strv, w0, w1, w2, wm1, tnK_len, ngK_len, zL_eq, zL_len]
      repeat' (first | apply And.intro | intro _)
      any_goals (first | (refine hK27 _ ?_; clear hK27) | (first | omega | (simp only [IntKind.wrap_i64] at *; omega) | (simp_all; done) | (simp_all; omega)))
      refine swp_seq fun K28 hK28 => ?_
      refine swp_region ty_ok ?_
      refine runs_cut 2 fun R29 hR29 => ?_
      try simp (maxSteps := 1000000) [runs, gd, step1, need, evu, un, opnds, opv, ev, cst, cst1, cstL, getT, getH, putT, onL, nxt, argT, cellsOf, PV.one, thn, inBlk, jmp, fldP, ldP, ldC, live, Cells.len, Cells.get, Cells.w, sug, ldv, bin, ops2, sh2, binv, Tk.agg, stC, apC, rdS, apS, mvL, zp, argsP, idx, fillP, toInts, chunks, mkC, ixS, ixA, oidx, slP, sl0, mxF, bltn, frzA, frz, frzL, frz1, pur1, Cells.pur, PV.scal, scal1, runD, rdO, PV.ids, id1, zids, ety, Eff.on, cnd, minb, and1b, ifmax, ifmin, mxv, sugI, strv, w0, w1, w2, wm1, tnK_len, ngK_len, zL_eq, zL_len, List.take_succ_cons, List.take_zero, List.drop_succ_cons, List.drop_zero]
      repeat' (first | apply And.intro | intro _)
      any_goals (first | (refine hR29 _ ?_; clear hR29) | (first | omega | (simp only [IntKind.wrap_i64] at *; omega) | (simp_all; done) | (simp_all; omega)))
      refine runs_cut 1 fun R30 hR30 => ?_
      try simp (maxSteps := 1000000) [runs, gd, step1, need, evu, un, opnds, opv, ev, cst, cst1, cstL, getT, getH, putT, onL, nxt, argT, cellsOf, PV.one, thn, inBlk, jmp, fldP, ldP, ldC, live, Cells.len, Cells.get, Cells.w, sug, ldv, bin, ops2, sh2, binv, Tk.agg, stC, apC, rdS, apS, mvL, zp, argsP, idx, fillP, toInts, chunks, mkC, ixS, ixA, oidx, slP, sl0, mxF, bltn, frzA, frz, frzL, frz1, pur1, Cells.pur, PV.scal, scal1, runD, rdO, PV.ids, id1, zids, ety, Eff.on, cnd, minb, and1b, ifmax, ifmin, mxv, sugI, strv, w0, w1, w2, wm1, tnK_len, ngK_len, zL_eq, zL_len, List.take_succ_cons, List.take_zero, List.drop_succ_cons, List.drop_zero]
      refine .inl ⟨_, (by have h := lane_Check_ok rate ga s sh m g se st (tnK tn k) (ln.set a.toNat 8192) (len_tnK hLk (by omega)); rw [chL_bad hz (linC_big (j := a.toNat) (by omega) (by rw [set_at, if_pos ⟨rfl, by omega⟩]))] at h; exact h), ?_⟩
      try simp (maxSteps := 1000000) [runs, gd, step1, need, evu, un, opnds, opv, ev, cst, cst1, cstL, getT, getH, putT, onL, nxt, argT, cellsOf, PV.one, thn, inBlk, jmp, fldP, ldP, ldC, live, Cells.len, Cells.get, Cells.w, sug, ldv, bin, ops2, sh2, binv, Tk.agg, stC, apC, rdS, apS, mvL, zp, argsP, idx, fillP, toInts, chunks, mkC, ixS, ixA, oidx, slP, sl0, mxF, bltn, frzA, frz, frzL, frz1, pur1, Cells.pur, PV.scal, scal1, runD, rdO, PV.ids, id1, zids, ety, Eff.on, cnd, minb, and1b, ifmax, ifmin, mxv, sugI, strv, w0, w1, w2, wm1, tnK_len, ngK_len, zL_eq, zL_len]
      repeat' (first | apply And.intro | intro _)
      any_goals (first | (refine hR30 _ ?_; clear hR30) | (first | omega | (simp only [IntKind.wrap_i64] at *; omega) | (simp_all; done) | (simp_all; omega)))
      try simp (maxSteps := 1000000) [runs, gd, step1, need, evu, un, opnds, opv, ev, cst, cst1, cstL, getT, getH, putT, onL, nxt, argT, cellsOf, PV.one, thn, inBlk, jmp, fldP, ldP, ldC, live, Cells.len, Cells.get, Cells.w, sug, ldv, bin, ops2, sh2, binv, Tk.agg, stC, apC, rdS, apS, mvL, zp, argsP, idx, fillP, toInts, chunks, mkC, ixS, ixA, oidx, slP, sl0, mxF, bltn, frzA, frz, frzL, frz1, pur1, Cells.pur, PV.scal, scal1, runD, rdO, PV.ids, id1, zids, ety, Eff.on, cnd, minb, and1b, ifmax, ifmin, mxv, sugI, strv, w0, w1, w2, wm1, tnK_len, ngK_len, zL_eq, zL_len, List.take_succ_cons, List.take_zero, List.drop_succ_cons, List.drop_zero]
      repeat' (first | apply And.intro | intro _)
      any_goals (first | (refine hK28 _ ?_; clear hK28) | (first | omega | (simp only [IntKind.wrap_i64] at *; omega) | (simp_all; done) | (simp_all; omega)))
      refine swp_seq fun K31 hK31 => ?_
      refine swp_region ty_ok ?_
      refine runs_cut 1 fun R32 hR32 => ?_
      try simp (maxSteps := 1000000) [runs, gd, step1, need, evu, un, opnds, opv, ev, cst, cst1, cstL, getT, getH, putT, onL, nxt, argT, cellsOf, PV.one, thn, inBlk, jmp, fldP, ldP, ldC, live, Cells.len, Cells.get, Cells.w, sug, ldv, bin, ops2, sh2, binv, Tk.agg, stC, apC, rdS, apS, mvL, zp, argsP, idx, fillP, toInts, chunks, mkC, ixS, ixA, oidx, slP, sl0, mxF, bltn, frzA, frz, frzL, frz1, pur1, Cells.pur, PV.scal, scal1, runD, rdO, PV.ids, id1, zids, ety, Eff.on, cnd, minb, and1b, ifmax, ifmin, mxv, sugI, strv, w0, w1, w2, wm1, tnK_len, ngK_len, zL_eq, zL_len, List.take_succ_cons, List.take_zero, List.drop_succ_cons, List.drop_zero]
      repeat' (first | apply And.intro | intro _)
      any_goals (first | (refine Or.inr (hR32 _ ?_); clear hR32) | (first | omega | (simp only [IntKind.wrap_i64] at *; omega) | (simp_all; done) | (simp_all; omega)))
      try simp (maxSteps := 1000000) [runs, gd, step1, need, evu, un, opnds, opv, ev, cst, cst1, cstL, getT, getH, putT, onL, nxt, argT, cellsOf, PV.one, thn, inBlk, jmp, fldP, ldP, ldC, live, Cells.len, Cells.get, Cells.w, sug, ldv, bin, ops2, sh2, binv, Tk.agg, stC, apC, rdS, apS, mvL, zp, argsP, idx, fillP, toInts, chunks, mkC, ixS, ixA, oidx, slP, sl0, mxF, bltn, frzA, frz, frzL, frz1, pur1, Cells.pur, PV.scal, scal1, runD, rdO, PV.ids, id1, zids, ety, Eff.on, cnd, minb, and1b, ifmax, ifmin, mxv, sugI, strv, w0, w1, w2, wm1, tnK_len, ngK_len, zL_eq, zL_len, List.take_succ_cons, List.take_zero, List.drop_succ_cons, List.drop_zero]
      repeat' (first | apply And.intro | intro _)
      any_goals (first | (refine hK31 _ ?_; clear hK31) | (first | omega | (simp only [IntKind.wrap_i64] at *; omega) | (simp_all; done) | (simp_all; omega)))
      refine swp_seq fun K33 hK33 => ?_
      refine swp_region ty_ok ?_
      refine runs_cut 2 fun R34 hR34 => ?_
      try simp (maxSteps := 1000000) [runs, gd, step1, need, evu, un, opnds, opv, ev, cst, cst1, cstL, getT, getH, putT, onL, nxt, argT, cellsOf, PV.one, thn, inBlk, jmp, fldP, ldP, ldC, live, Cells.len, Cells.get, Cells.w, sug, ldv, bin, ops2, sh2, binv, Tk.agg, stC, apC, rdS, apS, mvL, zp, argsP, idx, fillP, toInts, chunks, mkC, ixS, ixA, oidx, slP, sl0, mxF, bltn, frzA, frz, frzL, frz1, pur1, Cells.pur, PV.scal, scal1, runD, rdO, PV.ids, id1, zids, ety, Eff.on, cnd, minb, and1b, ifmax, ifmin, mxv, sugI, strv, w0, w1, w2, wm1, tnK_len, ngK_len, zL_eq, zL_len, List.take_succ_cons, List.take_zero, List.drop_succ_cons, List.drop_zero]
      repeat' (first | apply And.intro | intro _)
      any_goals (first | (refine hR34 _ ?_; clear hR34) | (first | omega | (simp only [IntKind.wrap_i64] at *; omega) | (simp_all; done) | (simp_all; omega)))
      refine runs_cut 1 fun R35 hR35 => ?_
      try simp (maxSteps := 1000000) [runs, gd, step1, need, evu, un, opnds, opv, ev, cst, cst1, cstL, getT, getH, putT, onL, nxt, argT, cellsOf, PV.one, thn, inBlk, jmp, fldP, ldP, ldC, live, Cells.len, Cells.get, Cells.w, sug, ldv, bin, ops2, sh2, binv, Tk.agg, stC, apC, rdS, apS, mvL, zp, argsP, idx, fillP, toInts, chunks, mkC, ixS, ixA, oidx, slP, sl0, mxF, bltn, frzA, frz, frzL, frz1, pur1, Cells.pur, PV.scal, scal1, runD, rdO, PV.ids, id1, zids, ety, Eff.on, cnd, minb, and1b, ifmax, ifmin, mxv, sugI, strv, w0, w1, w2, wm1, tnK_len, ngK_len, zL_eq, zL_len, List.take_succ_cons, List.take_zero, List.drop_succ_cons, List.drop_zero]
      refine .inl ⟨_, (by have h := lane_Check_ok rate ga s sh m g se st (tnK tn k) zL (len_tnK hLk (by omega)); rw [chL_yes hz (filA_tnK hfil (by omega)) linC_zero] at h; exact h), ?_⟩
      try simp (maxSteps := 1000000) [runs, gd, step1, need, evu, un, opnds, opv, ev, cst, cst1, cstL, getT, getH, putT, onL, nxt, argT, cellsOf, PV.one, thn, inBlk, jmp, fldP, ldP, ldC, live, Cells.len, Cells.get, Cells.w, sug, ldv, bin, ops2, sh2, binv, Tk.agg, stC, apC, rdS, apS, mvL, zp, argsP, idx, fillP, toInts, chunks, mkC, ixS, ixA, oidx, slP, sl0, mxF, bltn, frzA, frz, frzL, frz1, pur1, Cells.pur, PV.scal, scal1, runD, rdO, PV.ids, id1, zids, ety, Eff.on, cnd, minb, and1b, ifmax, ifmin, mxv, sugI, strv, w0, w1, w2, wm1, tnK_len, ngK_len, zL_eq, zL_len]
      repeat' (first | apply And.intro | intro _)
      any_goals (first | (refine hR35 _ ?_; clear hR35) | (first | omega | (simp only [IntKind.wrap_i64] at *; omega) | (simp_all; done) | (simp_all; omega)))
      try simp (maxSteps := 1000000) [runs, gd, step1, need, evu, un, opnds, opv, ev, cst, cst1, cstL, getT, getH, putT, onL, nxt, argT, cellsOf, PV.one, thn, inBlk, jmp, fldP, ldP, ldC, live, Cells.len, Cells.get, Cells.w, sug, ldv, bin, ops2, sh2, binv, Tk.agg, stC, apC, rdS, apS, mvL, zp, argsP, idx, fillP, toInts, chunks, mkC, ixS, ixA, oidx, slP, sl0, mxF, bltn, frzA, frz, frzL, frz1, pur1, Cells.pur, PV.scal, scal1, runD, rdO, PV.ids, id1, zids, ety, Eff.on, cnd, minb, and1b, ifmax, ifmin, mxv, sugI, strv, w0, w1, w2, wm1, tnK_len, ngK_len, zL_eq, zL_len, List.take_succ_cons, List.take_zero, List.drop_succ_cons, List.drop_zero]
      repeat' (first | apply And.intro | intro _)
      any_goals (first | (refine hK33 _ ?_; clear hK33) | (first | omega | (simp only [IntKind.wrap_i64] at *; omega) | (simp_all; done) | (simp_all; omega)))
      refine swp_seq fun K36 hK36 => ?_
      refine swp_region ty_ok ?_
      refine runs_cut 1 fun R37 hR37 => ?_
      try simp (maxSteps := 1000000) [runs, gd, step1, need, evu, un, opnds, opv, ev, cst, cst1, cstL, getT, getH, putT, onL, nxt, argT, cellsOf, PV.one, thn, inBlk, jmp, fldP, ldP, ldC, live, Cells.len, Cells.get, Cells.w, sug, ldv, bin, ops2, sh2, binv, Tk.agg, stC, apC, rdS, apS, mvL, zp, argsP, idx, fillP, toInts, chunks, mkC, ixS, ixA, oidx, slP, sl0, mxF, bltn, frzA, frz, frzL, frz1, pur1, Cells.pur, PV.scal, scal1, runD, rdO, PV.ids, id1, zids, ety, Eff.on, cnd, minb, and1b, ifmax, ifmin, mxv, sugI, strv, w0, w1, w2, wm1, tnK_len, ngK_len, zL_eq, zL_len, List.take_succ_cons, List.take_zero, List.drop_succ_cons, List.drop_zero]
      repeat' (first | apply And.intro | intro _)
      any_goals (first | (refine hR37 _ ?_; clear hR37) | (first | omega | (simp only [IntKind.wrap_i64] at *; omega) | (simp_all; done) | (simp_all; omega)))
      refine runs_cut 1 fun R38 hR38 => ?_
      try simp (maxSteps := 1000000) [runs, gd, step1, need, evu, un, opnds, opv, ev, cst, cst1, cstL, getT, getH, putT, onL, nxt, argT, cellsOf, PV.one, thn, inBlk, jmp, fldP, ldP, ldC, live, Cells.len, Cells.get, Cells.w, sug, ldv, bin, ops2, sh2, binv, Tk.agg, stC, apC, rdS, apS, mvL, zp, argsP, idx, fillP, toInts, chunks, mkC, ixS, ixA, oidx, slP, sl0, mxF, bltn, frzA, frz, frzL, frz1, pur1, Cells.pur, PV.scal, scal1, runD, rdO, PV.ids, id1, zids, ety, Eff.on, cnd, minb, and1b, ifmax, ifmin, mxv, sugI, strv, w0, w1, w2, wm1, tnK_len, ngK_len, zL_eq, zL_len, List.take_succ_cons, List.take_zero, List.drop_succ_cons, List.drop_zero]
      refine .inr (hcl_mk (tw2 ga s sh m g se st tn ln hLk (by omega)) (by simp [PV.ids, id1, getH, Blk.inL, Cells.inL, inL1]) (by simp [PV.inL, inL1]) (by simp) ?_)
      try simp (maxSteps := 1000000) [runs, gd, step1, need, evu, un, opnds, opv, ev, cst, cst1, cstL, getT, getH, putT, onL, nxt, argT, cellsOf, PV.one, thn, inBlk, jmp, fldP, ldP, ldC, live, Cells.len, Cells.get, Cells.w, sug, ldv, bin, ops2, sh2, binv, Tk.agg, stC, apC, rdS, apS, mvL, zp, argsP, idx, fillP, toInts, chunks, mkC, ixS, ixA, oidx, slP, sl0, mxF, bltn, frzA, frz, frzL, frz1, pur1, Cells.pur, PV.scal, scal1, runD, rdO, PV.ids, id1, zids, ety, Eff.on, cnd, minb, and1b, ifmax, ifmin, mxv, sugI, strv, w0, w1, w2, wm1, tnK_len, ngK_len, zL_eq, zL_len]
      repeat' (first | apply And.intro | intro _)
      any_goals (first | (refine hR38 _ ?_; clear hR38) | (first | omega | (simp only [IntKind.wrap_i64] at *; omega) | (simp_all; done) | (simp_all; omega)))
      try simp (maxSteps := 1000000) [runs, gd, step1, need, evu, un, opnds, opv, ev, cst, cst1, cstL, getT, getH, putT, onL, nxt, argT, cellsOf, PV.one, thn, inBlk, jmp, fldP, ldP, ldC, live, Cells.len, Cells.get, Cells.w, sug, ldv, bin, ops2, sh2, binv, Tk.agg, stC, apC, rdS, apS, mvL, zp, argsP, idx, fillP, toInts, chunks, mkC, ixS, ixA, oidx, slP, sl0, mxF, bltn, frzA, frz, frzL, frz1, pur1, Cells.pur, PV.scal, scal1, runD, rdO, PV.ids, id1, zids, ety, Eff.on, cnd, minb, and1b, ifmax, ifmin, mxv, sugI, strv, w0, w1, w2, wm1, tnK_len, ngK_len, zL_eq, zL_len, List.take_succ_cons, List.take_zero, List.drop_succ_cons, List.drop_zero]
      repeat' (first | apply And.intro | intro _)
      any_goals (first | (refine hK36 _ ?_; clear hK36) | (first | omega | (simp only [IntKind.wrap_i64] at *; omega) | (simp_all; done) | (simp_all; omega)))
      refine swp_seq fun K39 hK39 => ?_
      refine swp_seq fun K40 hK40 => ?_
      refine swp_region ty_ok ?_
      try simp (maxSteps := 1000000) [runs, gd, step1, need, evu, un, opnds, opv, ev, cst, cst1, cstL, getT, getH, putT, onL, nxt, argT, cellsOf, PV.one, thn, inBlk, jmp, fldP, ldP, ldC, live, Cells.len, Cells.get, Cells.w, sug, ldv, bin, ops2, sh2, binv, Tk.agg, stC, apC, rdS, apS, mvL, zp, argsP, idx, fillP, toInts, chunks, mkC, ixS, ixA, oidx, slP, sl0, mxF, bltn, frzA, frz, frzL, frz1, pur1, Cells.pur, PV.scal, scal1, runD, rdO, PV.ids, id1, zids, ety, Eff.on, cnd, minb, and1b, ifmax, ifmin, mxv, sugI, strv, w0, w1, w2, wm1, tnK_len, ngK_len, zL_eq, zL_len]
      repeat' (first | apply And.intro | intro _)
      any_goals (first | (refine hK40 _ ?_; clear hK40) | (first | omega | (simp only [IntKind.wrap_i64] at *; omega) | (simp_all; done) | (simp_all; omega)))
      refine swp_block ?_
      refine swp_loop 100 (fun m_ s_ => ∃ (j : Nat), (j ≤ 256) ∧ s_ = ⟨[(0, .int .i64 rate), (4, .ptr 0 0 0 1), (10, .int .i64 0), (11, .int .i64 8), (12, .int .i64 0), (13, .ptr 99 0 0 1), (14, .int .i64 (j : Nat))], [(0, some ⟨.rows 9 [[.int .i64 ga, .int .u8 s, .int .u8 sh, .int .i64 m, .ro (.ints .i64 g), .ro (.rows 1 (se.map fun w => [.ro (.rows 2 (w.map Sc.row))])), .ro (.rows 1 (st.map fun w => [.ro (.ints .i64 w)])), .ro (.rows 1 (tn.map fun w => [.ro (.rows 5 (w.map Fl.row))])), .ro (.ints .i64 ln)]], true, 29⟩), (95, some ⟨.rows 1 (se.map fun w => [PV.ro (.rows 2 (w.map Sc.row))]), false, 36⟩), (96, some ⟨.rows 1 (st.map fun w => [PV.ro (.ints .i64 w)]), false, 22⟩), (97, some ⟨.rows 1 (tn.map fun w => [PV.ro (.rows 5 (w.map Fl.row))]), false, 33⟩), (98, some ⟨.ints .i64 (ngK ln j), false, 3⟩), (99, some ⟨.rows 9 [[.int .i64 ga, .int .u8 s, .int .u8 sh, .int .i64 m, .ro (.ints .i64 g), .sl 95 0 se.length se.length, .sl 96 0 st.length st.length, .sl 97 0 tn.length tn.length, .sl 98 0 ln.length ln.length]], true, 29⟩)], 100⟩ ∧ m_ = 256 - j) _ ⟨[(0, .int .i64 rate), (4, .ptr 0 0 0 1), (10, .int .i64 0), (11, .int .i64 8), (12, .int .i64 0), (13, .ptr 99 0 0 1), (14, .int .i64 (0 : Nat))], [(0, some ⟨.rows 9 [[.int .i64 ga, .int .u8 s, .int .u8 sh, .int .i64 m, .ro (.ints .i64 g), .ro (.rows 1 (se.map fun w => [.ro (.rows 2 (w.map Sc.row))])), .ro (.rows 1 (st.map fun w => [.ro (.ints .i64 w)])), .ro (.rows 1 (tn.map fun w => [.ro (.rows 5 (w.map Fl.row))])), .ro (.ints .i64 ln)]], true, 29⟩), (95, some ⟨.rows 1 (se.map fun w => [PV.ro (.rows 2 (w.map Sc.row))]), false, 36⟩), (96, some ⟨.rows 1 (st.map fun w => [PV.ro (.ints .i64 w)]), false, 22⟩), (97, some ⟨.rows 1 (tn.map fun w => [PV.ro (.rows 5 (w.map Fl.row))]), false, 33⟩), (98, some ⟨.ints .i64 (ngK ln 0), false, 3⟩), (99, some ⟨.rows 9 [[.int .i64 ga, .int .u8 s, .int .u8 sh, .int .i64 m, .ro (.ints .i64 g), .sl 95 0 se.length se.length, .sl 96 0 st.length st.length, .sl 97 0 tn.length tn.length, .sl 98 0 ln.length ln.length]], true, 29⟩)], 100⟩ ⟨by simp [getT, PV.lo, lo1], by simp [getH, Blk.lo, Cells.lo, lo1, ngK], rfl, by omega⟩ ⟨(0), by (first | omega | (simp only [IntKind.wrap_i64] at *; omega) | (simp_all; done) | (simp_all; omega)), rfl, rfl⟩ ?_
      rintro m_ s_ ⟨j, hL41_0, rfl, rfl⟩ KL41 hL41
      have hjw : IntKind.i64.wrap ((j : Int) + 1) = (((j + 1 : Nat)) : Int) := wnext (by omega)
      refine swp_seq fun K42 hK42 => ?_
      refine swp_seq fun K43 hK43 => ?_
      refine swp_region ty_ok ?_
      try simp (maxSteps := 1000000) [runs, gd, step1, need, evu, un, opnds, opv, ev, cst, cst1, cstL, getT, getH, putT, onL, nxt, argT, cellsOf, PV.one, thn, inBlk, jmp, fldP, ldP, ldC, live, Cells.len, Cells.get, Cells.w, sug, ldv, bin, ops2, sh2, binv, Tk.agg, stC, apC, rdS, apS, mvL, zp, argsP, idx, fillP, toInts, chunks, mkC, ixS, ixA, oidx, slP, sl0, mxF, bltn, frzA, frz, frzL, frz1, pur1, Cells.pur, PV.scal, scal1, runD, rdO, PV.ids, id1, zids, ety, Eff.on, cnd, minb, and1b, ifmax, ifmin, mxv, sugI, strv, w0, w1, w2, wm1, tnK_len, ngK_len, zL_eq, zL_len]
      repeat' (first | apply And.intro | intro _)
      any_goals (first | (refine hK43 _ ?_; clear hK43) | (first | omega | (simp only [IntKind.wrap_i64] at *; omega) | (simp_all; done) | (simp_all; omega)))
      refine swp_if fun C44 hC44 => ?_
      try simp (maxSteps := 1000000) [runs, gd, step1, need, evu, un, opnds, opv, ev, cst, cst1, cstL, getT, getH, putT, onL, nxt, argT, cellsOf, PV.one, thn, inBlk, jmp, fldP, ldP, ldC, live, Cells.len, Cells.get, Cells.w, sug, ldv, bin, ops2, sh2, binv, Tk.agg, stC, apC, rdS, apS, mvL, zp, argsP, idx, fillP, toInts, chunks, mkC, ixS, ixA, oidx, slP, sl0, mxF, bltn, frzA, frz, frzL, frz1, pur1, Cells.pur, PV.scal, scal1, runD, rdO, PV.ids, id1, zids, ety, Eff.on, cnd, minb, and1b, ifmax, ifmin, mxv, sugI, strv, w0, w1, w2, wm1, tnK_len, ngK_len, zL_eq, zL_len]
      refine hC44 _ (fun hc44 => ?_) (fun hc44 => ?_)
      · clear hC44
        try simp at hc44
        refine swp_skip ?_
        simp only [thn, inBlk]
        refine hK42 _ ?_; clear hK42
        refine swp_seq fun K45 hK45 => ?_
        refine swp_block ?_
        have hjl : (ngK ln j).length = 256 := by rw [ngK_len]; exact hln
        have hjb := linC_bd (ngK_lin hlin j) (j := j) (by omega)
        have hjn : IntKind.i64.wrap (-((ngK ln j)[j]?.getD 0)) = -((ngK ln j)[j]?.getD 0) := w64 (by omega)
        refine swp_draw ty_ok mixed (ms := [0, 1, 0, 0, 8, 0, 56, 120, 248, 511, 1023]) (by kernel_rfl) ?_
        try simp (maxSteps := 1000000) [runs, gd, step1, need, evu, un, opnds, opv, ev, cst, cst1, cstL, getT, getH, putT, onL, nxt, argT, cellsOf, PV.one, thn, inBlk, jmp, fldP, ldP, ldC, live, Cells.len, Cells.get, Cells.w, sug, ldv, bin, ops2, sh2, binv, Tk.agg, stC, apC, rdS, apS, mvL, zp, argsP, idx, fillP, toInts, chunks, mkC, ixS, ixA, oidx, slP, sl0, mxF, bltn, frzA, frz, frzL, frz1, pur1, Cells.pur, PV.scal, scal1, runD, rdO, PV.ids, id1, zids, ety, Eff.on, cnd, minb, and1b, ifmax, ifmin, mxv, sugI, strv, w0, w1, w2, wm1, tnK_len, ngK_len, zL_eq, zL_len, hjn]
        repeat' (first | apply And.intro | intro _)
        any_goals (first | kernel_rfl | (refine hK45 _ ?_; clear hK45) | (first | omega | (simp only [IntKind.wrap_i64] at *; omega) | (simp_all; done) | (simp_all; omega)))
        refine swp_region ty_ok ?_
        try simp (maxSteps := 1000000) [runs, gd, step1, need, evu, un, opnds, opv, ev, cst, cst1, cstL, getT, getH, putT, onL, nxt, argT, cellsOf, PV.one, thn, inBlk, jmp, fldP, ldP, ldC, live, Cells.len, Cells.get, Cells.w, sug, ldv, bin, ops2, sh2, binv, Tk.agg, stC, apC, rdS, apS, mvL, zp, argsP, idx, fillP, toInts, chunks, mkC, ixS, ixA, oidx, slP, sl0, mxF, bltn, frzA, frz, frzL, frz1, pur1, Cells.pur, PV.scal, scal1, runD, rdO, PV.ids, id1, zids, ety, Eff.on, cnd, minb, and1b, ifmax, ifmin, mxv, sugI, strv, w0, w1, w2, wm1, tnK_len, ngK_len, zL_eq, zL_len]
        repeat' apply And.intro
        any_goals (try omega)
        refine hL41 _ ⟨[(0, .int .i64 rate), (4, .ptr 0 0 0 1), (10, .int .i64 0), (11, .int .i64 8), (12, .int .i64 0), (13, .ptr 99 0 0 1), (14, .int .i64 ((j + 1) : Nat))], [(0, some ⟨.rows 9 [[.int .i64 ga, .int .u8 s, .int .u8 sh, .int .i64 m, .ro (.ints .i64 g), .ro (.rows 1 (se.map fun w => [.ro (.rows 2 (w.map Sc.row))])), .ro (.rows 1 (st.map fun w => [.ro (.ints .i64 w)])), .ro (.rows 1 (tn.map fun w => [.ro (.rows 5 (w.map Fl.row))])), .ro (.ints .i64 ln)]], true, 29⟩), (95, some ⟨.rows 1 (se.map fun w => [PV.ro (.rows 2 (w.map Sc.row))]), false, 36⟩), (96, some ⟨.rows 1 (st.map fun w => [PV.ro (.ints .i64 w)]), false, 22⟩), (97, some ⟨.rows 1 (tn.map fun w => [PV.ro (.rows 5 (w.map Fl.row))]), false, 33⟩), (98, some ⟨.ints .i64 (ngK ln (j + 1)), false, 3⟩), (99, some ⟨.rows 9 [[.int .i64 ga, .int .u8 s, .int .u8 sh, .int .i64 m, .ro (.ints .i64 g), .sl 95 0 se.length se.length, .sl 96 0 st.length st.length, .sl 97 0 tn.length tn.length, .sl 98 0 ln.length ln.length]], true, 29⟩)], 100⟩ _ ?_ ⟨(j + 1), by (first | omega | (simp only [IntKind.wrap_i64] at *; omega) | (simp_all; done) | (simp_all; omega)), rfl, rfl⟩ ⟨by simp [getT, PV.lo, lo1, hjw], by simp [getH, Blk.lo, Cells.lo, lo1, ngK], rfl, by omega⟩
        omega
      · clear hC44
        try simp at hc44
        refine swp_exit ?_
        simp [thn, inBlk]
        refine hK39 _ ?_; clear hK39
        refine swp_seq fun K47 hK47 => ?_
        refine swp_region ty_ok ?_
        refine runs_cut 6 fun R48 hR48 => ?_
        try simp (maxSteps := 1000000) [runs, gd, step1, need, evu, un, opnds, opv, ev, cst, cst1, cstL, getT, getH, putT, onL, nxt, argT, cellsOf, PV.one, thn, inBlk, jmp, fldP, ldP, ldC, live, Cells.len, Cells.get, Cells.w, sug, ldv, bin, ops2, sh2, binv, Tk.agg, stC, apC, rdS, apS, mvL, zp, argsP, idx, fillP, toInts, chunks, mkC, ixS, ixA, oidx, slP, sl0, mxF, bltn, frzA, frz, frzL, frz1, pur1, Cells.pur, PV.scal, scal1, runD, rdO, PV.ids, id1, zids, ety, Eff.on, cnd, minb, and1b, ifmax, ifmin, mxv, sugI, strv, w0, w1, w2, wm1, tnK_len, ngK_len, zL_eq, zL_len, List.take_succ_cons, List.take_zero, List.drop_succ_cons, List.drop_zero]
        repeat' (first | apply And.intro | intro _)
        any_goals (first | (refine hR48 _ ?_; clear hR48) | (first | omega | (simp only [IntKind.wrap_i64] at *; omega) | (simp_all; done) | (simp_all; omega)))
        refine runs_cut 7 fun R49 hR49 => ?_
        try simp (maxSteps := 1000000) [runs, gd, step1, need, evu, un, opnds, opv, ev, cst, cst1, cstL, getT, getH, putT, onL, nxt, argT, cellsOf, PV.one, thn, inBlk, jmp, fldP, ldP, ldC, live, Cells.len, Cells.get, Cells.w, sug, ldv, bin, ops2, sh2, binv, Tk.agg, stC, apC, rdS, apS, mvL, zp, argsP, idx, fillP, toInts, chunks, mkC, ixS, ixA, oidx, slP, sl0, mxF, bltn, frzA, frz, frzL, frz1, pur1, Cells.pur, PV.scal, scal1, runD, rdO, PV.ids, id1, zids, ety, Eff.on, cnd, minb, and1b, ifmax, ifmin, mxv, sugI, strv, w0, w1, w2, wm1, tnK_len, ngK_len, zL_eq, zL_len, List.take_succ_cons, List.take_zero, List.drop_succ_cons, List.drop_zero]
        repeat' (first | apply And.intro | intro _)
        any_goals (first | (refine hR49 _ ?_; clear hR49) | (first | omega | (simp only [IntKind.wrap_i64] at *; omega) | (simp_all; done) | (simp_all; omega)))
        refine runs_cut 1 fun R50 hR50 => ?_
        try simp (maxSteps := 1000000) [runs, gd, step1, need, evu, un, opnds, opv, ev, cst, cst1, cstL, getT, getH, putT, onL, nxt, argT, cellsOf, PV.one, thn, inBlk, jmp, fldP, ldP, ldC, live, Cells.len, Cells.get, Cells.w, sug, ldv, bin, ops2, sh2, binv, Tk.agg, stC, apC, rdS, apS, mvL, zp, argsP, idx, fillP, toInts, chunks, mkC, ixS, ixA, oidx, slP, sl0, mxF, bltn, frzA, frz, frzL, frz1, pur1, Cells.pur, PV.scal, scal1, runD, rdO, PV.ids, id1, zids, ety, Eff.on, cnd, minb, and1b, ifmax, ifmin, mxv, sugI, strv, w0, w1, w2, wm1, tnK_len, ngK_len, zL_eq, zL_len, List.take_succ_cons, List.take_zero, List.drop_succ_cons, List.drop_zero]
        refine .inl ⟨_, by (intros; exact Or.inl (by have h := lane_Check_ok rate ga s sh m g se st tn (ngK ln j) hLk; rw [chL_yes hz hfil (ngK_lin hlin j)] at h; exact ⟨h, rfl⟩)), ?_⟩
        repeat' (first | apply And.intro | intro _)
        any_goals (first | (refine hR50 _ ?_; clear hR50) | (first | omega | (simp only [IntKind.wrap_i64] at *; omega) | (simp_all; done) | (simp_all; omega)))
        try simp (maxSteps := 1000000) [runs, gd, step1, need, evu, un, opnds, opv, ev, cst, cst1, cstL, getT, getH, putT, onL, nxt, argT, cellsOf, PV.one, thn, inBlk, jmp, fldP, ldP, ldC, live, Cells.len, Cells.get, Cells.w, sug, ldv, bin, ops2, sh2, binv, Tk.agg, stC, apC, rdS, apS, mvL, zp, argsP, idx, fillP, toInts, chunks, mkC, ixS, ixA, oidx, slP, sl0, mxF, bltn, frzA, frz, frzL, frz1, pur1, Cells.pur, PV.scal, scal1, runD, rdO, PV.ids, id1, zids, ety, Eff.on, cnd, minb, and1b, ifmax, ifmin, mxv, sugI, strv, w0, w1, w2, wm1, tnK_len, ngK_len, zL_eq, zL_len, List.take_succ_cons, List.take_zero, List.drop_succ_cons, List.drop_zero]
        repeat' (first | apply And.intro | intro _)
        any_goals (first | (refine hK47 _ ?_; clear hK47) | (first | omega | (simp only [IntKind.wrap_i64] at *; omega) | (simp_all; done) | (simp_all; omega)))
        refine swp_ret ?_
        simp [runs, gd, step1, need, evu, un, opnds, opv, ev, cst, cst1, cstL, getT, getH, putT, onL, nxt, argT, cellsOf, PV.one, thn, inBlk, jmp, fldP, ldP, ldC, live, Cells.len, Cells.get, Cells.w, sug, ldv, bin, ops2, sh2, binv, Tk.agg, stC, apC, rdS, apS, mvL, zp, argsP, idx, fillP, toInts, chunks, mkC, ixS, ixA, oidx, slP, sl0, mxF, bltn, frzA, frz, frzL, frz1, pur1, Cells.pur, PV.scal, scal1, runD, rdO, PV.ids, id1, zids, ety, Eff.on, cnd, minb, and1b, ifmax, ifmin, mxv, sugI, strv, w0, w1, w2, wm1, fnPost, Try.results11, resP, tupOf]

end Go.Proofs.Ytmkgfgdipkagbaa

