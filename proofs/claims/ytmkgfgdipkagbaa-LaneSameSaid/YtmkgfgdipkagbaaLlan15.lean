import Derived.Test.YtmkgfgdipkagbaaWf
import Derived.Test.YtmkgfgdipkagbaaTyl
import Derived.Test.YtmkgfgdipkagbaaLlt
import Derived.Test.YtmkgfgdipkagbaaLlan8
import Derived.Test.YtmkgfgdipkagbaaLlan6
import Derived.Test.YtmkgfgdipkagbaaLtnl
namespace Go.Proofs.Ytmkgfgdipkagbaa
set_option linter.unusedVariables false
set_option linter.unusedSimpArgs false
set_option maxRecDepth 10000
open Go Go.Pv


open Go.RowKit
def IU (_ : Int) : List PV := [.uint .i64]
def SU (_ : Sc) : List PV := [.uint .i64, .uint .i64]
def FU (f : Fl) : List PV := [.uint .i64, .uint .i64, .bool f.down, .bool f.fine, .old 3 (.rows 1 (f.co.map IU))]
def SUs (w : List Sc) : List PV := [.old 38 (.rows 2 (w.map SU))]
def IUs (w : List Int) : List PV := [.old 3 (.rows 1 (w.map IU))]
def FUs (w : List Fl) : List PV := [.old 35 (.rows 5 (w.map FU))]
theorem atu_any {α : Type} (f : α → List PV) (d : α) {l : List α} {k : Nat} (h : k < l.length) : (Option.map f l[k]?).getD [] = f (l[k]?.getD d) := by
  rw [List.getElem?_eq_getElem h]; rfl
theorem getu_any {α : Type} (w : Nat) (f : α → List PV) (d : α) {l : List α} {k j : Nat} (h : k < l.length) : (Cells.rows w (l.map f)).get k j = ((f (l[k]?.getD d))[j]?).getD .any := by
  simp only [Cells.get, List.getD_eq_getElem?_getD]
  rw [List.getElem?_map, atu_any f d h]
theorem bl_IU (w : List Int) : Bl (.old 3 (.rows 1 (w.map IU))) := .old _ _ fun i j hi hj => by
  have hi : i < w.length := by simpa [Cells.len] using hi
  have hj : j < 1 := hj
  rw [getu_any 1 IU 0 hi]
  match j, hj with
  | 0, _ => exact .uint _
theorem bl_SU (w : List Sc) : Bl (.old 38 (.rows 2 (w.map SU))) := .old _ _ fun i j hi hj => by
  have hi : i < w.length := by simpa [Cells.len] using hi
  have hj : j < 2 := hj
  rw [getu_any 2 SU default hi]
  match j, hj with
  | 0, _ => exact .uint _
  | 1, _ => exact .uint _
theorem bl_FU (w : List Fl) : Bl (.old 35 (.rows 5 (w.map FU))) := .old _ _ fun i j hi hj => by
  have hi : i < w.length := by simpa [Cells.len] using hi
  have hj : j < 5 := hj
  rw [getu_any 5 FU default hi]
  match j, hj with
  | 0, _ => exact .uint _
  | 1, _ => exact .uint _
  | 2, _ => exact .bool _
  | 3, _ => exact .bool _
  | 4, _ => exact bl_IU _
theorem bl_s (T : TypeId) {α : Type} (d : α) (f : α → List PV) (g : α → PV) (hf : ∀ x, f x = [g x]) (hg : ∀ x, Bl (g x)) (l : List α) : Bl (.old T (.rows 1 (l.map f))) := .old _ _ fun i j hi hj => by
  have hi : i < l.length := by simpa [Cells.len] using hi
  have hj : j < 1 := hj
  rw [getu_any 1 f d hi, hf]
  match j, hj with
  | 0, _ => exact hg _
theorem blur_int (w : List Int) : Blur (.old 3 (.ints .i64 w)) (.old 3 (.rows 1 (w.map IU))) := .ints 3 .i64 w
theorem blur_rows {α : Type} (T : TypeId) (n : Nat) (d : α) (f f' : α → List PV) (l : List α) (h : ∀ x j, j < n → Blur (((f x)[j]?).getD .any) (((f' x)[j]?).getD .any)) : Blur (.old T (.rows n (l.map f))) (.old T (.rows n (l.map f'))) := .rows T n _ _ (by simp) fun i j hi hj => by
  have hi : i < l.length := by simpa using hi
  rw [getu_any n f d hi, getu_any n f' d hi]
  exact h _ j hj
theorem blur_sc (x : Sc) (j : Nat) (hj : j < 2) : Blur (((Sc.row x)[j]?).getD .any) (((SU x)[j]?).getD .any) := by
  match j, hj with
  | 0, _ => exact .int ..
  | 1, _ => exact .int ..
theorem blur_fl (x : Fl) (j : Nat) (hj : j < 5) : Blur (((FlO x)[j]?).getD .any) (((FU x)[j]?).getD .any) := by
  match j, hj with
  | 0, _ => exact .int ..
  | 1, _ => exact .int ..
  | 2, _ => exact .same _
  | 3, _ => exact .same _
  | 4, _ => exact blur_int _
theorem blur_se (se : List (List Sc)) : Blur (.old 36 (.rows 1 (se.map fun w => [.old 38 (.rows 2 (w.map Sc.row))]))) (.old 36 (.rows 1 (se.map SUs))) := blur_rows 36 1 [] _ _ se fun w j hj => by
  match j, hj with
  | 0, _ => exact blur_rows 38 2 default _ _ w blur_sc
theorem blur_st (st : List (List Int)) : Blur (.old 22 (.rows 1 (st.map fun w => [.old 3 (.ints .i64 w)]))) (.old 22 (.rows 1 (st.map IUs))) := blur_rows 22 1 [] _ _ st fun w j hj => by
  match j, hj with
  | 0, _ => exact blur_int w
theorem blur_tn (tn : List (List Fl)) : Blur (.old 33 (.rows 1 (tn.map fun w => [.old 35 (.rows 5 (w.map FlO))]))) (.old 33 (.rows 1 (tn.map FUs))) := blur_rows 33 1 [] _ _ tn fun w j hj => by
  match j, hj with
  | 0, _ => exact blur_rows 35 5 default _ _ w blur_fl
theorem olds_se (se : List (List Sc)) : Olds (.ro (.rows 1 (se.map fun w => [.ro (.rows 2 (w.map Sc.row))]))) (.old 36 (.rows 1 (se.map fun w => [.old 38 (.rows 2 (w.map Sc.row))]))) := .rows 36 1 _ _ (by simp) fun i j hi hj => by
  have hi : i < se.length := by simpa using hi
  rw [getu_any 1 _ [] hi, getu_any 1 _ [] hi]
  match j, hj with
  | 0, _ =>
    refine .rows 38 2 _ _ rfl fun i2 j2 hi2 hj2 => ?_
    have hi2 : i2 < (se[i]?.getD []).length := by simpa using hi2
    rw [getu_any 2 _ default hi2]
    match j2, hj2 with
    | 0, _ => exact .int ..
    | 1, _ => exact .int ..
theorem olds_st (st : List (List Int)) : Olds (.ro (.rows 1 (st.map fun w => [.ro (.ints .i64 w)]))) (.old 22 (.rows 1 (st.map fun w => [.old 3 (.ints .i64 w)]))) := .rows 22 1 _ _ (by simp) fun i j hi hj => by
  have hi : i < st.length := by simpa using hi
  rw [getu_any 1 _ [] hi, getu_any 1 _ [] hi]
  match j, hj with
  | 0, _ => exact .ints ..
theorem olds_tn (tn : List (List Fl)) : Olds (.ro (.rows 1 (tn.map fun w => [.ro (.rows 5 (w.map Fl.row))]))) (.old 33 (.rows 1 (tn.map fun w => [.old 35 (.rows 5 (w.map FlO))]))) := .rows 33 1 _ _ (by simp) fun i j hi hj => by
  have hi : i < tn.length := by simpa using hi
  rw [getu_any 1 _ [] hi, getu_any 1 _ [] hi]
  match j, hj with
  | 0, _ =>
    refine .rows 35 5 _ _ (by simp) fun i2 j2 hi2 hj2 => ?_
    have hi2 : i2 < (tn[i]?.getD []).length := by simpa using hi2
    rw [getu_any 5 _ default hi2, getu_any 5 _ default hi2]
    match j2, hj2 with
    | 0, _ => exact .int ..
    | 1, _ => exact .int ..
    | 2, _ => exact .bool _
    | 3, _ => exact .bool _
    | 4, _ => exact .ints ..
theorem rsame_old (ga s sh m : Int) (g : List Int) (se : List (List Sc)) (st : List (List Int)) (tn : List (List Fl)) (ln : List Int) (hl : LenOk g se st tn) (hln : ln.length ≤ 1000000) (n : Nat) : HCall Try.prog 17 [.agg [.int .i64 ga, .int .u8 s, .int .u8 sh, .int .i64 m, .ro (.ints .i64 g), .old 36 (.rows 1 (se.map fun w => [.old 38 (.rows 2 (w.map Sc.row))])), .old 22 (.rows 1 (st.map fun w => [.old 3 (.ints .i64 w)])), .old 33 (.rows 1 (tn.map fun w => [.old 35 (.rows 5 (w.map FlO))])), .old 3 (.ints .i64 ln)], .agg [.int .i64 ga, .int .u8 s, .int .u8 sh, .int .i64 m, .ro (.ints .i64 g), .ro (.rows 1 (se.map fun w => [.ro (.rows 2 (w.map Sc.row))])), .ro (.rows 1 (st.map fun w => [.ro (.ints .i64 w)])), .ro (.rows 1 (tn.map fun w => [.ro (.rows 5 (w.map Fl.row))])), .ro (.ints .i64 ln)]] [] n (.bool (decide (ga = ga) && (decide (s = s) && decide (sh = sh) && decide (m = m) && decide (g = g)) && decide (ln = ln) && (decide (se = se) && decide (st = st)) && decide (tn = tn))) [] :=
  hcall_olds (ps' := [.agg [.int .i64 ga, .int .u8 s, .int .u8 sh, .int .i64 m, .ro (.ints .i64 g), .old 36 (.rows 1 (se.map fun w => [.old 38 (.rows 2 (w.map Sc.row))])), .old 22 (.rows 1 (st.map fun w => [.old 3 (.ints .i64 w)])), .old 33 (.rows 1 (tn.map fun w => [.old 35 (.rows 5 (w.map FlO))])), .old 3 (.ints .i64 ln)], .agg [.int .i64 ga, .int .u8 s, .int .u8 sh, .int .i64 m, .ro (.ints .i64 g), .ro (.rows 1 (se.map fun w => [.ro (.rows 2 (w.map Sc.row))])), .ro (.rows 1 (st.map fun w => [.ro (.ints .i64 w)])), .ro (.rows 1 (tn.map fun w => [.ro (.rows 5 (w.map Fl.row))])), .ro (.ints .i64 ln)]]) (rsame_ok ga s sh m g se st tn ln ga s sh m g se st tn ln hl hln) rfl rfl (fun i p p' h1 h2 => by
    match i with
    | 0 =>
      simp only [List.getElem?_cons_zero, Option.some.injEq] at h1 h2
      subst h1
      subst h2
      refine .agg _ _ rfl fun i p p' h1 h2 => ?_
      match i with
      | 0 => simp at h1 h2; subst h1; subst h2; exact .pur _ rfl
      | 1 => simp at h1 h2; subst h1; subst h2; exact .pur _ rfl
      | 2 => simp at h1 h2; subst h1; subst h2; exact .pur _ rfl
      | 3 => simp at h1 h2; subst h1; subst h2; exact .pur _ rfl
      | 4 => simp at h1 h2; subst h1; subst h2; exact .pur _ rfl
      | 5 => simp only [List.getElem?_cons_succ, List.getElem?_cons_zero, Option.some.injEq] at h1 h2; subst h1; subst h2; exact .old _ _ rfl (olds_se se)
      | 6 => simp only [List.getElem?_cons_succ, List.getElem?_cons_zero, Option.some.injEq] at h1 h2; subst h1; subst h2; exact .old _ _ rfl (olds_st st)
      | 7 => simp only [List.getElem?_cons_succ, List.getElem?_cons_zero, Option.some.injEq] at h1 h2; subst h1; subst h2; exact .old _ _ rfl (olds_tn tn)
      | 8 => simp only [List.getElem?_cons_succ, List.getElem?_cons_zero, Option.some.injEq] at h1 h2; subst h1; subst h2; exact .old _ _ rfl (.ints ..)
      | i + 9 => simp at h1
    | 1 =>
      simp only [List.getElem?_cons_succ, List.getElem?_cons_zero, Option.some.injEq] at h1 h2
      subst h1
      subst h2
      refine .agg _ _ rfl fun i p p' h1 h2 => ?_
      rw [h1] at h2
      cases h2
      match i with
      | 0 => simp at h1; subst h1; exact .pur _ rfl
      | 1 => simp at h1; subst h1; exact .pur _ rfl
      | 2 => simp at h1; subst h1; exact .pur _ rfl
      | 3 => simp at h1; subst h1; exact .pur _ rfl
      | 4 => simp at h1; subst h1; exact .pur _ rfl
      | 5 => simp only [List.getElem?_cons_succ, List.getElem?_cons_zero, Option.some.injEq] at h1; subst h1; exact .pur _ rfl
      | 6 => simp only [List.getElem?_cons_succ, List.getElem?_cons_zero, Option.some.injEq] at h1; subst h1; exact .pur _ rfl
      | 7 => simp only [List.getElem?_cons_succ, List.getElem?_cons_zero, Option.some.injEq] at h1; subst h1; exact .pur _ rfl
      | 8 => simp only [List.getElem?_cons_succ, List.getElem?_cons_zero, Option.some.injEq] at h1; subst h1; exact .pur _ rfl
      | i + 9 => simp at h1
    | i + 2 => simp at h1) n

set_option maxHeartbeats 16000000 in
theorem laneSame_ok (ga s sh m : Int) (g : List Int) (se : List (List Sc)) (st : List (List Int)) (tn : List (List Fl)) (ln : List Int) (ga2 s2 sj m2 : Int) (g2 : List Int) (se2 : List (List Sc)) (st2 : List (List Int)) (tn2 : List (List Fl)) (ln2 : List Int) : PCall Try.prog 3 [.agg [.int .i64 ga, .int .u8 s, .int .u8 sh, .int .i64 m, .ro (.ints .i64 g), .ro (.rows 1 (se.map fun w => [.ro (.rows 2 (w.map Sc.row))])), .ro (.rows 1 (st.map fun w => [.ro (.ints .i64 w)])), .ro (.rows 1 (tn.map fun w => [.ro (.rows 5 (w.map Fl.row))])), .ro (.ints .i64 ln)], .agg [.int .i64 ga2, .int .u8 s2, .int .u8 sj, .int .i64 m2, .ro (.ints .i64 g2), .ro (.rows 1 (se2.map fun w => [.ro (.rows 2 (w.map Sc.row))])), .ro (.rows 1 (st2.map fun w => [.ro (.ints .i64 w)])), .ro (.rows 1 (tn2.map fun w => [.ro (.rows 5 (w.map Fl.row))])), .ro (.ints .i64 ln2)]] (.bool true) := by
  refine pcall_body0 ty_ok Try.func3 rfl (by rfl) (by simp) ?_
  rw [Try.ntmps3]
  refine swp00_seq fun K1 hK1 => ?_
  refine swp00_region ty_ok ?_
  try simp (maxSteps := 1000000) [runs, gd, step1, need, evu, un, opnds, opv, ev, cst, cst1, cstL, getT, getH, putT, onL, nxt, argT, cellsOf, PV.one, thn, inBlk, jmp, fldP, ldP, ldC, live, Cells.len, Cells.get, Cells.w, sug, ldv, bin, eqF, eq1, ops2, sh2, binv, Tk.agg, stC, apC, rdS, apS, cpC, cpS, mvL, zp, argsP, idx, fillP, toInts, chunks, mkC, ixS, ixA, oidx, slP, sl0, slA, optL, List.append, mxF, bltn, frzA, frz, frzL, frz1, pur1, Cells.pur, PV.scal, scal1, runD, rdO, PV.ids, id1, zids, ety, Eff.on, cnd, minb, and1b, ifmax, ifmin, mxv, sugI, strv, w0, w1, w2, wm1]
  repeat' (first | apply And.intro | intro _)
  any_goals (first | (refine hK1 _ ?_; clear hK1) | (first | assumption | omega | (simp only [IntKind.wrap_i64] at *; omega) | (simp_all; done) | (simp_all; omega)))
  refine swp00_seq fun K2 hK2 => ?_
  refine swp00_seq fun K3 hK3 => ?_
  refine swp00_region ty_ok ?_
  refine runs_cut 1 fun R4 hR4 => ?_
  try simp (maxSteps := 1000000) [runs, gd, step1, need, evu, un, opnds, opv, ev, cst, cst1, cstL, getT, getH, putT, onL, nxt, argT, cellsOf, PV.one, thn, inBlk, jmp, fldP, ldP, ldC, live, Cells.len, Cells.get, Cells.w, sug, ldv, bin, eqF, eq1, ops2, sh2, binv, Tk.agg, stC, apC, rdS, apS, cpC, cpS, mvL, zp, argsP, idx, fillP, toInts, chunks, mkC, ixS, ixA, oidx, slP, sl0, slA, optL, List.append, mxF, bltn, frzA, frz, frzL, frz1, pur1, Cells.pur, PV.scal, scal1, runD, rdO, PV.ids, id1, zids, ety, Eff.on, cnd, minb, and1b, ifmax, ifmin, mxv, sugI, strv, w0, w1, w2, wm1, List.take_succ_cons, List.take_zero, List.drop_succ_cons, List.drop_zero]
  repeat' (first | apply And.intro | intro _)
  any_goals (first | (refine hR4 _ ?_; clear hR4) | (first | assumption | omega | (simp only [IntKind.wrap_i64] at *; omega) | (simp_all; done) | (simp_all; omega)))
  refine runs_cut 1 fun R5 hR5 => ?_
  try simp (maxSteps := 1000000) [runs, gd, step1, need, evu, un, opnds, opv, ev, cst, cst1, cstL, getT, getH, putT, onL, nxt, argT, cellsOf, PV.one, thn, inBlk, jmp, fldP, ldP, ldC, live, Cells.len, Cells.get, Cells.w, sug, ldv, bin, eqF, eq1, ops2, sh2, binv, Tk.agg, stC, apC, rdS, apS, cpC, cpS, mvL, zp, argsP, idx, fillP, toInts, chunks, mkC, ixS, ixA, oidx, slP, sl0, slA, optL, List.append, mxF, bltn, frzA, frz, frzL, frz1, pur1, Cells.pur, PV.scal, scal1, runD, rdO, PV.ids, id1, zids, ety, Eff.on, cnd, minb, and1b, ifmax, ifmin, mxv, sugI, strv, w0, w1, w2, wm1, List.take_succ_cons, List.take_zero, List.drop_succ_cons, List.drop_zero]
  refine .inl ⟨_, reedpiperef18_Great_ok ga s sh m g se st tn ln, ?_⟩
  try simp (maxSteps := 1000000) [runs, gd, step1, need, evu, un, opnds, opv, ev, cst, cst1, cstL, getT, getH, putT, onL, nxt, argT, cellsOf, PV.one, thn, inBlk, jmp, fldP, ldP, ldC, live, Cells.len, Cells.get, Cells.w, sug, ldv, bin, eqF, eq1, ops2, sh2, binv, Tk.agg, stC, apC, rdS, apS, cpC, cpS, mvL, zp, argsP, idx, fillP, toInts, chunks, mkC, ixS, ixA, oidx, slP, sl0, slA, optL, List.append, mxF, bltn, frzA, frz, frzL, frz1, pur1, Cells.pur, PV.scal, scal1, runD, rdO, PV.ids, id1, zids, ety, Eff.on, cnd, minb, and1b, ifmax, ifmin, mxv, sugI, strv, w0, w1, w2, wm1]
  repeat' (first | apply And.intro | intro _)
  any_goals (first | (refine hR5 _ ?_; clear hR5) | (first | assumption | omega | (simp only [IntKind.wrap_i64] at *; omega) | (simp_all; done) | (simp_all; omega)))
  refine runs_cut 2 fun R6 hR6 => ?_
  try simp (maxSteps := 1000000) [runs, gd, step1, need, evu, un, opnds, opv, ev, cst, cst1, cstL, getT, getH, putT, onL, nxt, argT, cellsOf, PV.one, thn, inBlk, jmp, fldP, ldP, ldC, live, Cells.len, Cells.get, Cells.w, sug, ldv, bin, eqF, eq1, ops2, sh2, binv, Tk.agg, stC, apC, rdS, apS, cpC, cpS, mvL, zp, argsP, idx, fillP, toInts, chunks, mkC, ixS, ixA, oidx, slP, sl0, slA, optL, List.append, mxF, bltn, frzA, frz, frzL, frz1, pur1, Cells.pur, PV.scal, scal1, runD, rdO, PV.ids, id1, zids, ety, Eff.on, cnd, minb, and1b, ifmax, ifmin, mxv, sugI, strv, w0, w1, w2, wm1, List.take_succ_cons, List.take_zero, List.drop_succ_cons, List.drop_zero]
  repeat' (first | apply And.intro | intro _)
  any_goals (first | (refine hR6 _ ?_; clear hR6) | (first | assumption | omega | (simp only [IntKind.wrap_i64] at *; omega) | (simp_all; done) | (simp_all; omega)))
  refine runs_cut 1 fun R7 hR7 => ?_
  try simp (maxSteps := 1000000) [runs, gd, step1, need, evu, un, opnds, opv, ev, cst, cst1, cstL, getT, getH, putT, onL, nxt, argT, cellsOf, PV.one, thn, inBlk, jmp, fldP, ldP, ldC, live, Cells.len, Cells.get, Cells.w, sug, ldv, bin, eqF, eq1, ops2, sh2, binv, Tk.agg, stC, apC, rdS, apS, cpC, cpS, mvL, zp, argsP, idx, fillP, toInts, chunks, mkC, ixS, ixA, oidx, slP, sl0, slA, optL, List.append, mxF, bltn, frzA, frz, frzL, frz1, pur1, Cells.pur, PV.scal, scal1, runD, rdO, PV.ids, id1, zids, ety, Eff.on, cnd, minb, and1b, ifmax, ifmin, mxv, sugI, strv, w0, w1, w2, wm1, List.take_succ_cons, List.take_zero, List.drop_succ_cons, List.drop_zero]
  first | refine .inl ⟨_, fun hb => .inl ⟨reedpiperef18_Great_ok ga2 s2 sj m2 g2 se2 st2 tn2 ln2, rfl⟩, ?_⟩ | refine .inl ⟨_, .inl ⟨reedpiperef18_Great_ok ga2 s2 sj m2 g2 se2 st2 tn2 ln2, rfl⟩, ?_⟩ | refine .inl ⟨_, fun hb => .inl (reedpiperef18_Great_ok ga2 s2 sj m2 g2 se2 st2 tn2 ln2), ?_⟩ | refine .inl ⟨_, .inl (reedpiperef18_Great_ok ga2 s2 sj m2 g2 se2 st2 tn2 ln2), ?_⟩ | refine .inl ⟨_, by (intros; exact Or.inl (reedpiperef18_Great_ok ga2 s2 sj m2 g2 se2 st2 tn2 ln2)), ?_⟩ | refine .inl ⟨_, by (intros; exact Or.inl ⟨reedpiperef18_Great_ok ga2 s2 sj m2 g2 se2 st2 tn2 ln2, rfl⟩), ?_⟩ | refine .inl ⟨_, fun hb => .inl ⟨_, reedpiperef18_Great_ok ga2 s2 sj m2 g2 se2 st2 tn2 ln2, by (try simp [runs, gd, step1, need, evu, un, opnds, opv, ev, cst, cst1, cstL, getT, getH, putT, onL, nxt, argT, cellsOf, PV.one, thn, inBlk, jmp, fldP, ldP, ldC, live, Cells.len, Cells.get, Cells.w, sug, ldv, bin, eqF, eq1, ops2, sh2, binv, Tk.agg, stC, apC, rdS, apS, cpC, cpS, mvL, zp, argsP, idx, fillP, toInts, chunks, mkC, ixS, ixA, oidx, slP, sl0, slA, optL, List.append, mxF, bltn, frzA, frz, frzL, frz1, pur1, Cells.pur, PV.scal, scal1, runD, rdO, PV.ids, id1, zids, ety, Eff.on, cnd, minb, and1b, ifmax, ifmin, mxv, sugI, strv, w0, w1, w2, wm1]); exact ⟨rfl, rfl⟩⟩, ?_⟩ | refine ⟨_, fun hb => .inl ⟨reedpiperef18_Great_ok ga2 s2 sj m2 g2 se2 st2 tn2 ln2, rfl⟩, ?_⟩ | refine ⟨_, .inl ⟨reedpiperef18_Great_ok ga2 s2 sj m2 g2 se2 st2 tn2 ln2, rfl⟩, ?_⟩ | refine ⟨_, fun hb => .inl (reedpiperef18_Great_ok ga2 s2 sj m2 g2 se2 st2 tn2 ln2), ?_⟩ | refine ⟨_, .inl (reedpiperef18_Great_ok ga2 s2 sj m2 g2 se2 st2 tn2 ln2), ?_⟩ | refine ⟨_, by (intros; exact Or.inl (reedpiperef18_Great_ok ga2 s2 sj m2 g2 se2 st2 tn2 ln2)), ?_⟩ | refine ⟨_, by (intros; exact Or.inl ⟨reedpiperef18_Great_ok ga2 s2 sj m2 g2 se2 st2 tn2 ln2, rfl⟩), ?_⟩ | refine ⟨_, fun hb => .inl ⟨_, reedpiperef18_Great_ok ga2 s2 sj m2 g2 se2 st2 tn2 ln2, by (try simp [runs, gd, step1, need, evu, un, opnds, opv, ev, cst, cst1, cstL, getT, getH, putT, onL, nxt, argT, cellsOf, PV.one, thn, inBlk, jmp, fldP, ldP, ldC, live, Cells.len, Cells.get, Cells.w, sug, ldv, bin, eqF, eq1, ops2, sh2, binv, Tk.agg, stC, apC, rdS, apS, cpC, cpS, mvL, zp, argsP, idx, fillP, toInts, chunks, mkC, ixS, ixA, oidx, slP, sl0, slA, optL, List.append, mxF, bltn, frzA, frz, frzL, frz1, pur1, Cells.pur, PV.scal, scal1, runD, rdO, PV.ids, id1, zids, ety, Eff.on, cnd, minb, and1b, ifmax, ifmin, mxv, sugI, strv, w0, w1, w2, wm1]); exact ⟨rfl, rfl⟩⟩, ?_⟩
  repeat' (first | apply And.intro | intro _)
  any_goals (first | (refine hR7 _ ?_; clear hR7) | (first | assumption | omega | (simp only [IntKind.wrap_i64] at *; omega) | (simp_all; done) | (simp_all; omega)))
  try simp (maxSteps := 1000000) [runs, gd, step1, need, evu, un, opnds, opv, ev, cst, cst1, cstL, getT, getH, putT, onL, nxt, argT, cellsOf, PV.one, thn, inBlk, jmp, fldP, ldP, ldC, live, Cells.len, Cells.get, Cells.w, sug, ldv, bin, eqF, eq1, ops2, sh2, binv, Tk.agg, stC, apC, rdS, apS, cpC, cpS, mvL, zp, argsP, idx, fillP, toInts, chunks, mkC, ixS, ixA, oidx, slP, sl0, slA, optL, List.append, mxF, bltn, frzA, frz, frzL, frz1, pur1, Cells.pur, PV.scal, scal1, runD, rdO, PV.ids, id1, zids, ety, Eff.on, cnd, minb, and1b, ifmax, ifmin, mxv, sugI, strv, w0, w1, w2, wm1, List.take_succ_cons, List.take_zero, List.drop_succ_cons, List.drop_zero]
  repeat' (first | apply And.intro | intro _)
  any_goals (first | (refine hK3 _ ?_; clear hK3) | (first | assumption | omega | (simp only [IntKind.wrap_i64] at *; omega) | (simp_all; done) | (simp_all; omega)))
  refine swp00_if fun C8 hC8 => ?_
  try simp (maxSteps := 1000000) [runs, gd, step1, need, evu, un, opnds, opv, ev, cst, cst1, cstL, getT, getH, putT, onL, nxt, argT, cellsOf, PV.one, thn, inBlk, jmp, fldP, ldP, ldC, live, Cells.len, Cells.get, Cells.w, sug, ldv, bin, eqF, eq1, ops2, sh2, binv, Tk.agg, stC, apC, rdS, apS, cpC, cpS, mvL, zp, argsP, idx, fillP, toInts, chunks, mkC, ixS, ixA, oidx, slP, sl0, slA, optL, List.append, mxF, bltn, frzA, frz, frzL, frz1, pur1, Cells.pur, PV.scal, scal1, runD, rdO, PV.ids, id1, zids, ety, Eff.on, cnd, minb, and1b, ifmax, ifmin, mxv, sugI, strv, w0, w1, w2, wm1]
  refine hC8 _ (fun hc8 => ?_) (fun hc8 => ?_)
  · clear hC8
    try simp at hc8
    refine swp00_seq fun K9 hK9 => ?_
    refine swp00_region ty_ok ?_
    try simp (maxSteps := 1000000) [runs, gd, step1, need, evu, un, opnds, opv, ev, cst, cst1, cstL, getT, getH, putT, onL, nxt, argT, cellsOf, PV.one, thn, inBlk, jmp, fldP, ldP, ldC, live, Cells.len, Cells.get, Cells.w, sug, ldv, bin, eqF, eq1, ops2, sh2, binv, Tk.agg, stC, apC, rdS, apS, cpC, cpS, mvL, zp, argsP, idx, fillP, toInts, chunks, mkC, ixS, ixA, oidx, slP, sl0, slA, optL, List.append, mxF, bltn, frzA, frz, frzL, frz1, pur1, Cells.pur, PV.scal, scal1, runD, rdO, PV.ids, id1, zids, ety, Eff.on, cnd, minb, and1b, ifmax, ifmin, mxv, sugI, strv, w0, w1, w2, wm1]
    repeat' (first | apply And.intro | intro _)
    any_goals (first | (refine hK9 _ ?_; clear hK9) | (first | assumption | omega | (simp only [IntKind.wrap_i64] at *; omega) | (simp_all; done) | (simp_all; omega)))
    refine swp00_ret ?_
    simp [runs, gd, step1, need, evu, un, opnds, opv, ev, cst, cst1, cstL, getT, getH, putT, onL, nxt, argT, cellsOf, PV.one, thn, inBlk, jmp, fldP, ldP, ldC, live, Cells.len, Cells.get, Cells.w, sug, ldv, bin, eqF, eq1, ops2, sh2, binv, Tk.agg, stC, apC, rdS, apS, cpC, cpS, mvL, zp, argsP, idx, fillP, toInts, chunks, mkC, ixS, ixA, oidx, slP, sl0, slA, optL, List.append, mxF, bltn, frzA, frz, frzL, frz1, pur1, Cells.pur, PV.scal, scal1, runD, rdO, PV.ids, id1, zids, ety, Eff.on, cnd, minb, and1b, ifmax, ifmin, mxv, sugI, strv, w0, w1, w2, wm1, fnPost, Try.results3, resP, tupOf]
  · clear hC8
    try simp at hc8
    refine swp00_skip ?_
    try simp only [thn, inBlk]
    refine hK2 _ ?_; clear hK2
    refine swp00_seq fun K10 hK10 => ?_
    have hgc : grC g se st tn ln = false := by
      have h := hc8
      revert h
      cases grC g se st tn ln <;> simp
    have hgn := grC_no hgc
    have hLk : LenOk g se st tn := ⟨⟨by omega, by omega, by omega, by omega⟩, fun w hw => by have := hgn.2.2.2.2.2.1 w hw; omega, fun w hw => by have := hgn.2.2.2.2.2.2.1 w hw; omega, fun w hw => ⟨by have := (hgn.2.2.2.2.2.2.2 w hw).1; omega, fun f hf => by have := (hgn.2.2.2.2.2.2.2 w hw).2 f hf; omega⟩⟩
    have hlx : ln.length ≤ 1000000 := by omega
    have hTw := (lane_twin0 ga s sh m g se st tn ln hLk hlx).hcall rfl
    have hSo := rsame_old ga s sh m g se st tn ln hLk hlx
    refine swp00_region ty_ok ?_
    refine runs_cut 1 fun R11 hR11 => ?_
    try simp (maxSteps := 1000000) [runs, gd, step1, need, evu, un, opnds, opv, ev, cst, cst1, cstL, getT, getH, putT, onL, nxt, argT, cellsOf, PV.one, thn, inBlk, jmp, fldP, ldP, ldC, live, Cells.len, Cells.get, Cells.w, sug, ldv, bin, eqF, eq1, ops2, sh2, binv, Tk.agg, stC, apC, rdS, apS, cpC, cpS, mvL, zp, argsP, idx, fillP, toInts, chunks, mkC, ixS, ixA, oidx, slP, sl0, slA, optL, List.append, mxF, bltn, frzA, frz, frzL, frz1, pur1, Cells.pur, PV.scal, scal1, runD, rdO, PV.ids, id1, zids, ety, Eff.on, cnd, minb, and1b, ifmax, ifmin, mxv, sugI, strv, w0, w1, w2, wm1, List.take_succ_cons, List.take_zero, List.drop_succ_cons, List.drop_zero]
    repeat' (first | apply And.intro | intro _)
    any_goals (first | (refine hR11 _ ?_; clear hR11) | (first | assumption | omega | (simp only [IntKind.wrap_i64] at *; omega) | (simp_all; done) | (simp_all; omega)))
    refine runs_cut 1 fun R12 hR12 => ?_
    try simp (maxSteps := 1000000) [runs, gd, step1, need, evu, un, opnds, opv, ev, cst, cst1, cstL, getT, getH, putT, onL, nxt, argT, cellsOf, PV.one, thn, inBlk, jmp, fldP, ldP, ldC, live, Cells.len, Cells.get, Cells.w, sug, ldv, bin, eqF, eq1, ops2, sh2, binv, Tk.agg, stC, apC, rdS, apS, cpC, cpS, mvL, zp, argsP, idx, fillP, toInts, chunks, mkC, ixS, ixA, oidx, slP, sl0, slA, optL, List.append, mxF, bltn, frzA, frz, frzL, frz1, pur1, Cells.pur, PV.scal, scal1, runD, rdO, PV.ids, id1, zids, ety, Eff.on, cnd, minb, and1b, ifmax, ifmin, mxv, sugI, strv, w0, w1, w2, wm1, List.take_succ_cons, List.take_zero, List.drop_succ_cons, List.drop_zero]
    refine .inr (hcl_mk (hTw _) (by simp [PV.ids, id1, getH, Blk.inL, Cells.inL, inL1]) (by simp [PV.inL, inL1]) (by simp) ?_)
    try simp (maxSteps := 1000000) [runs, gd, step1, need, evu, un, opnds, opv, ev, cst, cst1, cstL, getT, getH, putT, onL, nxt, argT, cellsOf, PV.one, thn, inBlk, jmp, fldP, ldP, ldC, live, Cells.len, Cells.get, Cells.w, sug, ldv, bin, eqF, eq1, ops2, sh2, binv, Tk.agg, stC, apC, rdS, apS, cpC, cpS, mvL, zp, argsP, idx, fillP, toInts, chunks, mkC, ixS, ixA, oidx, slP, sl0, slA, optL, List.append, mxF, bltn, frzA, frz, frzL, frz1, pur1, Cells.pur, PV.scal, scal1, runD, rdO, PV.ids, id1, zids, ety, Eff.on, cnd, minb, and1b, ifmax, ifmin, mxv, sugI, strv, w0, w1, w2, wm1]
    repeat' (first | apply And.intro | intro _)
    any_goals (first | (refine hR12 _ ?_; clear hR12) | (first | assumption | omega | (simp only [IntKind.wrap_i64] at *; omega) | (simp_all; done) | (simp_all; omega)))
    try simp (maxSteps := 1000000) [runs, gd, step1, need, evu, un, opnds, opv, ev, cst, cst1, cstL, getT, getH, putT, onL, nxt, argT, cellsOf, PV.one, thn, inBlk, jmp, fldP, ldP, ldC, live, Cells.len, Cells.get, Cells.w, sug, ldv, bin, eqF, eq1, ops2, sh2, binv, Tk.agg, stC, apC, rdS, apS, cpC, cpS, mvL, zp, argsP, idx, fillP, toInts, chunks, mkC, ixS, ixA, oidx, slP, sl0, slA, optL, List.append, mxF, bltn, frzA, frz, frzL, frz1, pur1, Cells.pur, PV.scal, scal1, runD, rdO, PV.ids, id1, zids, ety, Eff.on, cnd, minb, and1b, ifmax, ifmin, mxv, sugI, strv, w0, w1, w2, wm1, List.take_succ_cons, List.take_zero, List.drop_succ_cons, List.drop_zero]
    repeat' (first | apply And.intro | intro _)
    any_goals (first | (refine hK10 _ ?_; clear hK10) | (first | assumption | omega | (simp only [IntKind.wrap_i64] at *; omega) | (simp_all; done) | (simp_all; omega)))
    refine swp00_seq fun K13 hK13 => ?_
    refine swp00_draw ty_ok mixed (ms := [0, 0, 3, 0, 0, 31, 63, 127, 255, 255, 1023, 2047, 4095]) (by kernel_rfl) ?_
    refine runD_cut 2 fun R14 hR14 => ?_
    try simp (maxSteps := 1000000) [runs, gd, step1, need, evu, un, opnds, opv, ev, cst, cst1, cstL, getT, getH, putT, onL, nxt, argT, cellsOf, PV.one, thn, inBlk, jmp, fldP, ldP, ldC, live, Cells.len, Cells.get, Cells.w, sug, ldv, bin, eqF, eq1, ops2, sh2, binv, Tk.agg, stC, apC, rdS, apS, cpC, cpS, mvL, zp, argsP, idx, fillP, toInts, chunks, mkC, ixS, ixA, oidx, slP, sl0, slA, optL, List.append, mxF, bltn, frzA, frz, frzL, frz1, pur1, Cells.pur, PV.scal, scal1, runD, rdO, PV.ids, id1, zids, ety, Eff.on, cnd, minb, and1b, ifmax, ifmin, mxv, sugI, strv, w0, w1, w2, wm1, List.take_succ_cons, List.take_zero, List.drop_succ_cons, List.drop_zero]
    repeat' (first | apply And.intro | intro _)
    any_goals (first | (refine hR14 _ _ _ _ ?_; clear hR14) | (first | assumption | omega | (simp only [IntKind.wrap_i64] at *; omega) | (simp_all; done) | (simp_all; omega)))
    refine runD_cut 1 fun R15 hR15 => ?_
    try simp (maxSteps := 1000000) [runs, gd, step1, need, evu, un, opnds, opv, ev, cst, cst1, cstL, getT, getH, putT, onL, nxt, argT, cellsOf, PV.one, thn, inBlk, jmp, fldP, ldP, ldC, live, Cells.len, Cells.get, Cells.w, sug, ldv, bin, eqF, eq1, ops2, sh2, binv, Tk.agg, stC, apC, rdS, apS, cpC, cpS, mvL, zp, argsP, idx, fillP, toInts, chunks, mkC, ixS, ixA, oidx, slP, sl0, slA, optL, List.append, mxF, bltn, frzA, frz, frzL, frz1, pur1, Cells.pur, PV.scal, scal1, runD, rdO, PV.ids, id1, zids, ety, Eff.on, cnd, minb, and1b, ifmax, ifmin, mxv, sugI, strv, w0, w1, w2, wm1, List.take_succ_cons, List.take_zero, List.drop_succ_cons, List.drop_zero]
    refine .inl ⟨_, lsame_ok ga s sh m g se st tn ln ga2 s2 sj m2 g2 se2 st2 tn2 ln2 hLk hlx, ?_⟩
    try simp (maxSteps := 1000000) [runs, gd, step1, need, evu, un, opnds, opv, ev, cst, cst1, cstL, getT, getH, putT, onL, nxt, argT, cellsOf, PV.one, thn, inBlk, jmp, fldP, ldP, ldC, live, Cells.len, Cells.get, Cells.w, sug, ldv, bin, eqF, eq1, ops2, sh2, binv, Tk.agg, stC, apC, rdS, apS, cpC, cpS, mvL, zp, argsP, idx, fillP, toInts, chunks, mkC, ixS, ixA, oidx, slP, sl0, slA, optL, List.append, mxF, bltn, frzA, frz, frzL, frz1, pur1, Cells.pur, PV.scal, scal1, runD, rdO, PV.ids, id1, zids, ety, Eff.on, cnd, minb, and1b, ifmax, ifmin, mxv, sugI, strv, w0, w1, w2, wm1]
    repeat' (first | apply And.intro | intro _)
    any_goals (first | (refine hR15 _ _ _ _ ?_; clear hR15) | (first | assumption | omega | (simp only [IntKind.wrap_i64] at *; omega) | (simp_all; done) | (simp_all; omega)))
    refine runD_cut 2 fun R16 hR16 => ?_
    try simp (maxSteps := 1000000) [runs, gd, step1, need, evu, un, opnds, opv, ev, cst, cst1, cstL, getT, getH, putT, onL, nxt, argT, cellsOf, PV.one, thn, inBlk, jmp, fldP, ldP, ldC, live, Cells.len, Cells.get, Cells.w, sug, ldv, bin, eqF, eq1, ops2, sh2, binv, Tk.agg, stC, apC, rdS, apS, cpC, cpS, mvL, zp, argsP, idx, fillP, toInts, chunks, mkC, ixS, ixA, oidx, slP, sl0, slA, optL, List.append, mxF, bltn, frzA, frz, frzL, frz1, pur1, Cells.pur, PV.scal, scal1, runD, rdO, PV.ids, id1, zids, ety, Eff.on, cnd, minb, and1b, ifmax, ifmin, mxv, sugI, strv, w0, w1, w2, wm1, List.take_succ_cons, List.take_zero, List.drop_succ_cons, List.drop_zero]
    repeat' (first | apply And.intro | intro _)
    any_goals (first | (refine hR16 _ _ _ _ ?_; clear hR16) | (first | assumption | omega | (simp only [IntKind.wrap_i64] at *; omega) | (simp_all; done) | (simp_all; omega)))
    refine runD_cut 1 fun R17 hR17 => ?_
    try simp (maxSteps := 1000000) [runs, gd, step1, need, evu, un, opnds, opv, ev, cst, cst1, cstL, getT, getH, putT, onL, nxt, argT, cellsOf, PV.one, thn, inBlk, jmp, fldP, ldP, ldC, live, Cells.len, Cells.get, Cells.w, sug, ldv, bin, eqF, eq1, ops2, sh2, binv, Tk.agg, stC, apC, rdS, apS, cpC, cpS, mvL, zp, argsP, idx, fillP, toInts, chunks, mkC, ixS, ixA, oidx, slP, sl0, slA, optL, List.append, mxF, bltn, frzA, frz, frzL, frz1, pur1, Cells.pur, PV.scal, scal1, runD, rdO, PV.ids, id1, zids, ety, Eff.on, cnd, minb, and1b, ifmax, ifmin, mxv, sugI, strv, w0, w1, w2, wm1, List.take_succ_cons, List.take_zero, List.drop_succ_cons, List.drop_zero]
    refine .inl ⟨_, rsame_ok ga s sh m g se st tn ln ga2 s2 sj m2 g2 se2 st2 tn2 ln2 hLk hlx, ?_⟩
    try simp (maxSteps := 1000000) [runs, gd, step1, need, evu, un, opnds, opv, ev, cst, cst1, cstL, getT, getH, putT, onL, nxt, argT, cellsOf, PV.one, thn, inBlk, jmp, fldP, ldP, ldC, live, Cells.len, Cells.get, Cells.w, sug, ldv, bin, eqF, eq1, ops2, sh2, binv, Tk.agg, stC, apC, rdS, apS, cpC, cpS, mvL, zp, argsP, idx, fillP, toInts, chunks, mkC, ixS, ixA, oidx, slP, sl0, slA, optL, List.append, mxF, bltn, frzA, frz, frzL, frz1, pur1, Cells.pur, PV.scal, scal1, runD, rdO, PV.ids, id1, zids, ety, Eff.on, cnd, minb, and1b, ifmax, ifmin, mxv, sugI, strv, w0, w1, w2, wm1]
    repeat' (first | apply And.intro | intro _)
    any_goals (first | (refine hR17 _ _ _ _ ?_; clear hR17) | (first | assumption | omega | (simp only [IntKind.wrap_i64] at *; omega) | (simp_all; done) | (simp_all; omega)))
    refine runD_cut 4 fun R18 hR18 => ?_
    try simp (maxSteps := 1000000) [runs, gd, step1, need, evu, un, opnds, opv, ev, cst, cst1, cstL, getT, getH, putT, onL, nxt, argT, cellsOf, PV.one, thn, inBlk, jmp, fldP, ldP, ldC, live, Cells.len, Cells.get, Cells.w, sug, ldv, bin, eqF, eq1, ops2, sh2, binv, Tk.agg, stC, apC, rdS, apS, cpC, cpS, mvL, zp, argsP, idx, fillP, toInts, chunks, mkC, ixS, ixA, oidx, slP, sl0, slA, optL, List.append, mxF, bltn, frzA, frz, frzL, frz1, pur1, Cells.pur, PV.scal, scal1, runD, rdO, PV.ids, id1, zids, ety, Eff.on, cnd, minb, and1b, ifmax, ifmin, mxv, sugI, strv, w0, w1, w2, wm1, List.take_succ_cons, List.take_zero, List.drop_succ_cons, List.drop_zero]
    repeat' (first | apply And.intro | intro _)
    any_goals (first | (refine hR18 _ _ _ _ ?_; clear hR18) | (first | assumption | omega | (simp only [IntKind.wrap_i64] at *; omega) | (simp_all; done) | (simp_all; omega)))
    refine runD_cut 1 fun R19 hR19 => ?_
    try simp (maxSteps := 1000000) [runs, gd, step1, need, evu, un, opnds, opv, ev, cst, cst1, cstL, getT, getH, putT, onL, nxt, argT, cellsOf, PV.one, thn, inBlk, jmp, fldP, ldP, ldC, live, Cells.len, Cells.get, Cells.w, sug, ldv, bin, eqF, eq1, ops2, sh2, binv, Tk.agg, stC, apC, rdS, apS, cpC, cpS, mvL, zp, argsP, idx, fillP, toInts, chunks, mkC, ixS, ixA, oidx, slP, sl0, slA, optL, List.append, mxF, bltn, frzA, frz, frzL, frz1, pur1, Cells.pur, PV.scal, scal1, runD, rdO, PV.ids, id1, zids, ety, Eff.on, cnd, minb, and1b, ifmax, ifmin, mxv, sugI, strv, w0, w1, w2, wm1, List.take_succ_cons, List.take_zero, List.drop_succ_cons, List.drop_zero]
    first | refine .inl ⟨_, hcl_mk (hSo _) (by simp [PV.ids, id1, getH, Blk.inL, Cells.inL, inL1]) (by simp [PV.inL, inL1]) (by simp) ⟨rfl, rfl⟩, ?_⟩ | refine .inl ⟨_, fun hb => .inr (hcl_mk (hSo _) (by simp [PV.ids, id1, getH, Blk.inL, Cells.inL, inL1]) (by simp [PV.inL, inL1]) (by simp) ⟨rfl, rfl⟩), ?_⟩ | refine .inl ⟨_, by (intros; exact Or.inr (hcl_mk (hSo _) (by simp [PV.ids, id1, getH, Blk.inL, Cells.inL, inL1]) (by simp [PV.inL, inL1]) (by simp) ⟨rfl, rfl⟩)), ?_⟩
    repeat' (first | apply And.intro | intro _)
    any_goals (first | (refine hR19 _ _ _ _ ?_; clear hR19) | (first | assumption | omega | (simp only [IntKind.wrap_i64] at *; omega) | (simp_all; done) | (simp_all; omega)))
    try simp (maxSteps := 1000000) [runs, gd, step1, need, evu, un, opnds, opv, ev, cst, cst1, cstL, getT, getH, putT, onL, nxt, argT, cellsOf, PV.one, thn, inBlk, jmp, fldP, ldP, ldC, live, Cells.len, Cells.get, Cells.w, sug, ldv, bin, eqF, eq1, ops2, sh2, binv, Tk.agg, stC, apC, rdS, apS, cpC, cpS, mvL, zp, argsP, idx, fillP, toInts, chunks, mkC, ixS, ixA, oidx, slP, sl0, slA, optL, List.append, mxF, bltn, frzA, frz, frzL, frz1, pur1, Cells.pur, PV.scal, scal1, runD, rdO, PV.ids, id1, zids, ety, Eff.on, cnd, minb, and1b, ifmax, ifmin, mxv, sugI, strv, w0, w1, w2, wm1, List.take_succ_cons, List.take_zero, List.drop_succ_cons, List.drop_zero]
    repeat' (first | apply And.intro | intro _)
    any_goals (first | kernel_rfl | (refine hK13 _ ?_; clear hK13) | (first | assumption | omega | (simp only [IntKind.wrap_i64] at *; omega) | (simp_all; done) | (simp_all; omega)))
    refine swp00_seq fun K21 hK21 => ?_
    refine swp0_weak (k := 95) (s' := ⟨[(2, .ptr 0 0 0 1), (3, .ptr 1 0 0 1), (5, .ptr 2 0 0 1), (6, .bool true)], [(0, some ⟨.rows 9 [[.int .i64 ga, .int .u8 s, .int .u8 sh, .int .i64 m, .ro (.ints .i64 g), .ro (.rows 1 (se.map fun w => [.ro (.rows 2 (w.map Sc.row))])), .ro (.rows 1 (st.map fun w => [.ro (.ints .i64 w)])), .ro (.rows 1 (tn.map fun w => [.ro (.rows 5 (w.map Fl.row))])), .ro (.ints .i64 ln)]], true, 29⟩), (1, some ⟨.rows 9 [[.int .i64 ga2, .int .u8 s2, .int .u8 sj, .int .i64 m2, .ro (.ints .i64 g2), .ro (.rows 1 (se2.map fun w => [.ro (.rows 2 (w.map Sc.row))])), .ro (.rows 1 (st2.map fun w => [.ro (.ints .i64 w)])), .ro (.rows 1 (tn2.map fun w => [.ro (.rows 5 (w.map Fl.row))])), .ro (.ints .i64 ln2)]], true, 29⟩), (2, some ⟨.rows 9 [[.int .i64 ga, .int .u8 s, .int .u8 sh, .int .i64 m, .ro (.ints .i64 g), .old 36 (.rows 1 (se.map fun w => [.old 38 (.rows 2 (w.map Sc.row))])), .old 22 (.rows 1 (st.map fun w => [.old 3 (.ints .i64 w)])), .old 33 (.rows 1 (tn.map fun w => [.old 35 (.rows 5 (w.map FlO))])), .old 3 (.ints .i64 ln)]], true, 29⟩)], 95⟩) ⟨by simp [getT, PV.lo, lo1], by simp [getH, Blk.lo, Cells.lo, lo1], rfl, by omega⟩ ?_
    refine swp00_region ty_ok ?_
    refine runs_cut 1 fun R22 hR22 => ?_
    try simp (maxSteps := 1000000) [runs, gd, step1, need, evu, un, opnds, opv, ev, cst, cst1, cstL, getT, getH, putT, onL, nxt, argT, cellsOf, PV.one, thn, inBlk, jmp, fldP, ldP, ldC, live, Cells.len, Cells.get, Cells.w, sug, ldv, bin, eqF, eq1, ops2, sh2, binv, Tk.agg, stC, apC, rdS, apS, cpC, cpS, mvL, zp, argsP, idx, fillP, toInts, chunks, mkC, ixS, ixA, oidx, slP, sl0, slA, optL, List.append, mxF, bltn, frzA, frz, frzL, frz1, pur1, Cells.pur, PV.scal, scal1, runD, rdO, PV.ids, id1, zids, ety, Eff.on, cnd, minb, and1b, ifmax, ifmin, mxv, sugI, strv, w0, w1, w2, wm1, List.take_succ_cons, List.take_zero, List.drop_succ_cons, List.drop_zero]
    repeat' (first | apply And.intro | intro _)
    any_goals (first | (refine hR22 _ ?_; clear hR22) | (first | assumption | omega | (simp only [IntKind.wrap_i64] at *; omega) | (simp_all; done) | (simp_all; omega)))
    refine runs_cut 1 fun R23 hR23 => ?_
    try simp (maxSteps := 1000000) [runs, gd, step1, need, evu, un, opnds, opv, ev, cst, cst1, cstL, getT, getH, putT, onL, nxt, argT, cellsOf, PV.one, thn, inBlk, jmp, fldP, ldP, ldC, live, Cells.len, Cells.get, Cells.w, sug, ldv, bin, eqF, eq1, ops2, sh2, binv, Tk.agg, stC, apC, rdS, apS, cpC, cpS, mvL, zp, argsP, idx, fillP, toInts, chunks, mkC, ixS, ixA, oidx, slP, sl0, slA, optL, List.append, mxF, bltn, frzA, frz, frzL, frz1, pur1, Cells.pur, PV.scal, scal1, runD, rdO, PV.ids, id1, zids, ety, Eff.on, cnd, minb, and1b, ifmax, ifmin, mxv, sugI, strv, w0, w1, w2, wm1, List.take_succ_cons, List.take_zero, List.drop_succ_cons, List.drop_zero]
    refine .inr (hcl_mk (tw2 ga s sh m g se st tn ln hLk hlx) (by simp [PV.ids, id1, getH, Blk.inL, Cells.inL, inL1]) (by simp [PV.inL, inL1]) (by simp) ?_)
    try simp (maxSteps := 1000000) [runs, gd, step1, need, evu, un, opnds, opv, ev, cst, cst1, cstL, getT, getH, putT, onL, nxt, argT, cellsOf, PV.one, thn, inBlk, jmp, fldP, ldP, ldC, live, Cells.len, Cells.get, Cells.w, sug, ldv, bin, eqF, eq1, ops2, sh2, binv, Tk.agg, stC, apC, rdS, apS, cpC, cpS, mvL, zp, argsP, idx, fillP, toInts, chunks, mkC, ixS, ixA, oidx, slP, sl0, slA, optL, List.append, mxF, bltn, frzA, frz, frzL, frz1, pur1, Cells.pur, PV.scal, scal1, runD, rdO, PV.ids, id1, zids, ety, Eff.on, cnd, minb, and1b, ifmax, ifmin, mxv, sugI, strv, w0, w1, w2, wm1]
    repeat' (first | apply And.intro | intro _)
    any_goals (first | (refine hR23 _ ?_; clear hR23) | (first | assumption | omega | (simp only [IntKind.wrap_i64] at *; omega) | (simp_all; done) | (simp_all; omega)))
    try simp (maxSteps := 1000000) [runs, gd, step1, need, evu, un, opnds, opv, ev, cst, cst1, cstL, getT, getH, putT, onL, nxt, argT, cellsOf, PV.one, thn, inBlk, jmp, fldP, ldP, ldC, live, Cells.len, Cells.get, Cells.w, sug, ldv, bin, eqF, eq1, ops2, sh2, binv, Tk.agg, stC, apC, rdS, apS, cpC, cpS, mvL, zp, argsP, idx, fillP, toInts, chunks, mkC, ixS, ixA, oidx, slP, sl0, slA, optL, List.append, mxF, bltn, frzA, frz, frzL, frz1, pur1, Cells.pur, PV.scal, scal1, runD, rdO, PV.ids, id1, zids, ety, Eff.on, cnd, minb, and1b, ifmax, ifmin, mxv, sugI, strv, w0, w1, w2, wm1, List.take_succ_cons, List.take_zero, List.drop_succ_cons, List.drop_zero]
    repeat' (first | apply And.intro | intro _)
    any_goals (first | (refine hK21 _ ?_; clear hK21) | (first | assumption | omega | (simp only [IntKind.wrap_i64] at *; omega) | (simp_all; done) | (simp_all; omega)))
    refine swp00_seq fun K24 hK24 => ?_
    refine swp00_seq fun K25 hK25 => ?_
    refine swp00_region ty_ok ?_
    try simp (maxSteps := 1000000) [runs, gd, step1, need, evu, un, opnds, opv, ev, cst, cst1, cstL, getT, getH, putT, onL, nxt, argT, cellsOf, PV.one, thn, inBlk, jmp, fldP, ldP, ldC, live, Cells.len, Cells.get, Cells.w, sug, ldv, bin, eqF, eq1, ops2, sh2, binv, Tk.agg, stC, apC, rdS, apS, cpC, cpS, mvL, zp, argsP, idx, fillP, toInts, chunks, mkC, ixS, ixA, oidx, slP, sl0, slA, optL, List.append, mxF, bltn, frzA, frz, frzL, frz1, pur1, Cells.pur, PV.scal, scal1, runD, rdO, PV.ids, id1, zids, ety, Eff.on, cnd, minb, and1b, ifmax, ifmin, mxv, sugI, strv, w0, w1, w2, wm1]
    repeat' (first | apply And.intro | intro _)
    any_goals (first | (refine hK25 _ ?_; clear hK25) | (first | assumption | omega | (simp only [IntKind.wrap_i64] at *; omega) | (simp_all; done) | (simp_all; omega)))
    refine swp00_block ?_
    refine swp0_blur 2 (row' := [.int .i64 ga, .int .u8 s, .int .u8 sh, .int .i64 m, .ro (.ints .i64 g), .old 36 (.rows 1 (se.map SUs)), .old 22 (.rows 1 (st.map IUs)), .old 33 (.rows 1 (tn.map FUs)), .old 3 (.rows 1 (ln.map IU))]) (by rfl) (fun j => ?_) (show (2 : Nat) < 100 by omega) ?_
    · match j with
      | 0 => exact .inl rfl
      | 1 => exact .inl rfl
      | 2 => exact .inl rfl
      | 3 => exact .inl rfl
      | 4 => exact .inl rfl
      | 5 => exact .inr ⟨_, _, _, _, rfl, rfl, blur_se se⟩
      | 6 => exact .inr ⟨_, _, _, _, rfl, rfl, blur_st st⟩
      | 7 => exact .inr ⟨_, _, _, _, rfl, rfl, blur_tn tn⟩
      | 8 => exact .inr ⟨_, _, _, _, rfl, rfl, blur_int ln⟩
      | j + 9 => exact .inl rfl
    have hBl : BlH [(0, some ⟨.rows 9 [[.int .i64 ga, .int .u8 s, .int .u8 sh, .int .i64 m, .ro (.ints .i64 g), .ro (.rows 1 (se.map fun w => [.ro (.rows 2 (w.map Sc.row))])), .ro (.rows 1 (st.map fun w => [.ro (.ints .i64 w)])), .ro (.rows 1 (tn.map fun w => [.ro (.rows 5 (w.map Fl.row))])), .ro (.ints .i64 ln)]], true, 29⟩), (2, some ⟨.rows 9 [[.int .i64 ga, .int .u8 s, .int .u8 sh, .int .i64 m, .ro (.ints .i64 g), .old 36 (.rows 1 (se.map SUs)), .old 22 (.rows 1 (st.map IUs)), .old 33 (.rows 1 (tn.map FUs)), .old 3 (.rows 1 (ln.map IU))]], true, 29⟩), (99, some ⟨.rows 9 [[.int .i64 ga, .int .u8 s, .int .u8 sh, .int .i64 m, .ro (.ints .i64 g), .sl 95 0 se.length se.length, .sl 96 0 st.length st.length, .sl 97 0 tn.length tn.length, .sl 98 0 ln.length ln.length]], true, 29⟩), (95, some ⟨.rows 1 (se.map fun w => [.ro (.rows 2 (w.map Sc.row))]), false, 36⟩), (96, some ⟨.rows 1 (st.map fun w => [.ro (.ints .i64 w)]), false, 22⟩), (97, some ⟨.rows 1 (tn.map fun w => [.ro (.rows 5 (w.map Fl.row))]), false, 33⟩), (98, some ⟨.ints .i64 ln, false, 3⟩)] := by
      constructor
      intro id b hb
      simp only [getH] at hb
      split at hb
      · cases hb
        intro _ i j
        match i with
        | 0 =>
          match j with
          | 0 => exact .inl rfl
          | 1 => exact .inl rfl
          | 2 => exact .inl rfl
          | 3 => exact .inl rfl
          | 4 => exact .inl rfl
          | 5 => exact .inl rfl
          | 6 => exact .inl rfl
          | 7 => exact .inl rfl
          | 8 => exact .inl rfl
          | j + 9 => exact .inl rfl
        | i + 1 => exact .inl rfl
      · split at hb
        · cases hb
          intro _ i j
          match i with
          | 0 =>
            match j with
            | 0 => exact .inl rfl
            | 1 => exact .inl rfl
            | 2 => exact .inl rfl
            | 3 => exact .inl rfl
            | 4 => exact .inl rfl
            | 5 => exact .inr ⟨_, _, rfl, bl_s 36 [] SUs (fun w => .old 38 (.rows 2 (w.map SU))) (fun _ => rfl) bl_SU se⟩
            | 6 => exact .inr ⟨_, _, rfl, bl_s 22 [] IUs (fun w => .old 3 (.rows 1 (w.map IU))) (fun _ => rfl) bl_IU st⟩
            | 7 => exact .inr ⟨_, _, rfl, bl_s 33 [] FUs (fun w => .old 35 (.rows 5 (w.map FU))) (fun _ => rfl) bl_FU tn⟩
            | 8 => exact .inr ⟨_, _, rfl, bl_IU ln⟩
            | j + 9 => exact .inl rfl
          | i + 1 => exact .inl rfl
        · split at hb
          · cases hb
            intro _ i j
            match i with
            | 0 =>
              match j with
              | 0 => exact .inl rfl
              | 1 => exact .inl rfl
              | 2 => exact .inl rfl
              | 3 => exact .inl rfl
              | 4 => exact .inl rfl
              | 5 => exact .inl rfl
              | 6 => exact .inl rfl
              | 7 => exact .inl rfl
              | 8 => exact .inl rfl
              | j + 9 => exact .inl rfl
            | i + 1 => exact .inl rfl
          · repeat' split at hb
            all_goals (cases hb; try (intro h; exact absurd h (by simp)))
    refine swp00_loop 100 (fun m_ s_ => ∃ (i : Nat), (i ≤ ln.length) ∧ s_ = ⟨[(2, .ptr 0 0 0 1), (5, .ptr 2 0 0 1), (6, .bool true), (7, .ptr 99 0 0 1), (8, .int .i64 (i : Nat))], [(0, some ⟨.rows 9 [[.int .i64 ga, .int .u8 s, .int .u8 sh, .int .i64 m, .ro (.ints .i64 g), .ro (.rows 1 (se.map fun w => [.ro (.rows 2 (w.map Sc.row))])), .ro (.rows 1 (st.map fun w => [.ro (.ints .i64 w)])), .ro (.rows 1 (tn.map fun w => [.ro (.rows 5 (w.map Fl.row))])), .ro (.ints .i64 ln)]], true, 29⟩), (2, some ⟨.rows 9 [[.int .i64 ga, .int .u8 s, .int .u8 sh, .int .i64 m, .ro (.ints .i64 g), .old 36 (.rows 1 (se.map SUs)), .old 22 (.rows 1 (st.map IUs)), .old 33 (.rows 1 (tn.map FUs)), .old 3 (.rows 1 (ln.map IU))]], true, 29⟩), (99, some ⟨.rows 9 [[.int .i64 ga, .int .u8 s, .int .u8 sh, .int .i64 m, .ro (.ints .i64 g), .sl 95 0 se.length se.length, .sl 96 0 st.length st.length, .sl 97 0 tn.length tn.length, .sl 98 0 ln.length ln.length]], true, 29⟩), (95, some ⟨.rows 1 (se.map fun w => [.ro (.rows 2 (w.map Sc.row))]), false, 36⟩), (96, some ⟨.rows 1 (st.map fun w => [.ro (.ints .i64 w)]), false, 22⟩), (97, some ⟨.rows 1 (tn.map fun w => [.ro (.rows 5 (w.map Fl.row))]), false, 33⟩), (98, some ⟨.ints .i64 ln, false, 3⟩)], 100⟩ ∧ m_ = ln.length - i) _ ⟨[(2, .ptr 0 0 0 1), (5, .ptr 2 0 0 1), (6, .bool true), (7, .ptr 99 0 0 1), (8, .int .i64 (0 : Nat))], [(0, some ⟨.rows 9 [[.int .i64 ga, .int .u8 s, .int .u8 sh, .int .i64 m, .ro (.ints .i64 g), .ro (.rows 1 (se.map fun w => [.ro (.rows 2 (w.map Sc.row))])), .ro (.rows 1 (st.map fun w => [.ro (.ints .i64 w)])), .ro (.rows 1 (tn.map fun w => [.ro (.rows 5 (w.map Fl.row))])), .ro (.ints .i64 ln)]], true, 29⟩), (2, some ⟨.rows 9 [[.int .i64 ga, .int .u8 s, .int .u8 sh, .int .i64 m, .ro (.ints .i64 g), .old 36 (.rows 1 (se.map SUs)), .old 22 (.rows 1 (st.map IUs)), .old 33 (.rows 1 (tn.map FUs)), .old 3 (.rows 1 (ln.map IU))]], true, 29⟩), (99, some ⟨.rows 9 [[.int .i64 ga, .int .u8 s, .int .u8 sh, .int .i64 m, .ro (.ints .i64 g), .sl 95 0 se.length se.length, .sl 96 0 st.length st.length, .sl 97 0 tn.length tn.length, .sl 98 0 ln.length ln.length]], true, 29⟩), (95, some ⟨.rows 1 (se.map fun w => [.ro (.rows 2 (w.map Sc.row))]), false, 36⟩), (96, some ⟨.rows 1 (st.map fun w => [.ro (.ints .i64 w)]), false, 22⟩), (97, some ⟨.rows 1 (tn.map fun w => [.ro (.rows 5 (w.map Fl.row))]), false, 33⟩), (98, some ⟨.ints .i64 ln, false, 3⟩)], 100⟩ ⟨by simp [getT, PV.lo, lo1], by simp [getH, Blk.lo, Cells.lo, lo1], rfl, by omega⟩ ⟨(0), by (first | omega | (simp only [IntKind.wrap_i64] at *; omega) | (simp_all; done) | (simp_all; omega)), rfl, rfl⟩ ?_
    rintro m_ s_ ⟨i, hL26_0, rfl, rfl⟩ KL26 hL26
    have hiw : IntKind.i64.wrap ((i : Int) + 1) = (((i + 1 : Nat)) : Int) := wnext (by omega)
    refine swp00_seq fun K27 hK27 => ?_
    refine swp00_seq fun K28 hK28 => ?_
    refine swp00_regionO ty_ok ?_
    try simp (maxSteps := 1000000) [runs, gd, step1, need, evu, un, opnds, opv, ev, cst, cst1, cstL, getT, getH, putT, onL, nxt, argT, cellsOf, PV.one, thn, inBlk, jmp, fldP, ldP, ldC, live, Cells.len, Cells.get, Cells.w, sug, ldv, bin, eqF, eq1, ops2, sh2, binv, Tk.agg, stC, apC, rdS, apS, cpC, cpS, mvL, zp, argsP, idx, fillP, toInts, chunks, mkC, ixS, ixA, oidx, slP, sl0, slA, optL, List.append, mxF, bltn, frzA, frz, frzL, frz1, pur1, Cells.pur, PV.scal, scal1, runD, rdO, PV.ids, id1, zids, ety, Eff.on, cnd, minb, and1b, ifmax, ifmin, mxv, sugI, strv, w0, w1, w2, wm1, runsO, ood, stu, fno, noO, noO1, okL]
    repeat' (first | apply And.intro | intro _)
    any_goals (first | (refine hK28 _ ?_; clear hK28) | (first | assumption | omega | (simp only [IntKind.wrap_i64] at *; omega) | (simp_all; done) | (simp_all; omega)))
    refine swp00_if fun C29 hC29 => ?_
    try simp (maxSteps := 1000000) [runs, gd, step1, need, evu, un, opnds, opv, ev, cst, cst1, cstL, getT, getH, putT, onL, nxt, argT, cellsOf, PV.one, thn, inBlk, jmp, fldP, ldP, ldC, live, Cells.len, Cells.get, Cells.w, sug, ldv, bin, eqF, eq1, ops2, sh2, binv, Tk.agg, stC, apC, rdS, apS, cpC, cpS, mvL, zp, argsP, idx, fillP, toInts, chunks, mkC, ixS, ixA, oidx, slP, sl0, slA, optL, List.append, mxF, bltn, frzA, frz, frzL, frz1, pur1, Cells.pur, PV.scal, scal1, runD, rdO, PV.ids, id1, zids, ety, Eff.on, cnd, minb, and1b, ifmax, ifmin, mxv, sugI, strv, w0, w1, w2, wm1]
    refine hC29 _ (fun hc29 => ?_) (fun hc29 => ?_)
    · clear hC29
      try simp at hc29
      refine swp00_skip ?_
      try simp only [thn, inBlk]
      refine hK27 _ ?_; clear hK27
      refine swp00_seq fun K30 hK30 => ?_
      refine swp00_block ?_
      have hr1 := atu_any IU 0 (l := ln) (k := i) (by omega)
      refine swp00_regionO ty_ok ?_
      try simp (maxSteps := 1000000) [runs, gd, step1, need, evu, un, opnds, opv, ev, cst, cst1, cstL, getT, getH, putT, onL, nxt, argT, cellsOf, PV.one, thn, inBlk, jmp, fldP, ldP, ldC, live, Cells.len, Cells.get, Cells.w, sug, ldv, bin, eqF, eq1, ops2, sh2, binv, Tk.agg, stC, apC, rdS, apS, cpC, cpS, mvL, zp, argsP, idx, fillP, toInts, chunks, mkC, ixS, ixA, oidx, slP, sl0, slA, optL, List.append, mxF, bltn, frzA, frz, frzL, frz1, pur1, Cells.pur, PV.scal, scal1, runD, rdO, PV.ids, id1, zids, ety, Eff.on, cnd, minb, and1b, ifmax, ifmin, mxv, sugI, strv, w0, w1, w2, wm1, hr1, IU, runsO, ood, stu, fno, noO, noO1, okL]
      repeat' (first | apply And.intro | intro _)
      any_goals (first | (refine hK30 _ ?_; clear hK30) | (first | assumption | omega | (simp only [IntKind.wrap_i64] at *; omega) | (simp_all; done) | (simp_all; omega)))
      refine swp00_region ty_ok ?_
      try simp (maxSteps := 1000000) [runs, gd, step1, need, evu, un, opnds, opv, ev, cst, cst1, cstL, getT, getH, putT, onL, nxt, argT, cellsOf, PV.one, thn, inBlk, jmp, fldP, ldP, ldC, live, Cells.len, Cells.get, Cells.w, sug, ldv, bin, eqF, eq1, ops2, sh2, binv, Tk.agg, stC, apC, rdS, apS, cpC, cpS, mvL, zp, argsP, idx, fillP, toInts, chunks, mkC, ixS, ixA, oidx, slP, sl0, slA, optL, List.append, mxF, bltn, frzA, frz, frzL, frz1, pur1, Cells.pur, PV.scal, scal1, runD, rdO, PV.ids, id1, zids, ety, Eff.on, cnd, minb, and1b, ifmax, ifmin, mxv, sugI, strv, w0, w1, w2, wm1]
      repeat' apply And.intro
      any_goals (try omega)
      refine hL26 _ ⟨[(2, .ptr 0 0 0 1), (5, .ptr 2 0 0 1), (6, .bool true), (7, .ptr 99 0 0 1), (8, .int .i64 ((i + 1) : Nat))], [(0, some ⟨.rows 9 [[.int .i64 ga, .int .u8 s, .int .u8 sh, .int .i64 m, .ro (.ints .i64 g), .ro (.rows 1 (se.map fun w => [.ro (.rows 2 (w.map Sc.row))])), .ro (.rows 1 (st.map fun w => [.ro (.ints .i64 w)])), .ro (.rows 1 (tn.map fun w => [.ro (.rows 5 (w.map Fl.row))])), .ro (.ints .i64 ln)]], true, 29⟩), (2, some ⟨.rows 9 [[.int .i64 ga, .int .u8 s, .int .u8 sh, .int .i64 m, .ro (.ints .i64 g), .old 36 (.rows 1 (se.map SUs)), .old 22 (.rows 1 (st.map IUs)), .old 33 (.rows 1 (tn.map FUs)), .old 3 (.rows 1 (ln.map IU))]], true, 29⟩), (99, some ⟨.rows 9 [[.int .i64 ga, .int .u8 s, .int .u8 sh, .int .i64 m, .ro (.ints .i64 g), .sl 95 0 se.length se.length, .sl 96 0 st.length st.length, .sl 97 0 tn.length tn.length, .sl 98 0 ln.length ln.length]], true, 29⟩), (95, some ⟨.rows 1 (se.map fun w => [.ro (.rows 2 (w.map Sc.row))]), false, 36⟩), (96, some ⟨.rows 1 (st.map fun w => [.ro (.ints .i64 w)]), false, 22⟩), (97, some ⟨.rows 1 (tn.map fun w => [.ro (.rows 5 (w.map Fl.row))]), false, 33⟩), (98, some ⟨.ints .i64 ln, false, 3⟩)], 100⟩ _ ?_ ⟨(i + 1), by (first | omega | (simp only [IntKind.wrap_i64] at *; omega) | (simp_all; done) | (simp_all; omega)), rfl, rfl⟩ ⟨by simp [getT, PV.lo, lo1, hiw], by simp [getH, Blk.lo, Cells.lo, lo1], rfl, by omega⟩
      omega
    · clear hC29
      try simp at hc29
      refine swp00_exit ?_
      simp [thn, inBlk]
      refine hK24 _ ?_; clear hK24
      refine swp00_seq fun K31 hK31 => ?_
      refine swp00_seq fun K32 hK32 => ?_
      refine swp00_region ty_ok ?_
      try simp (maxSteps := 1000000) [runs, gd, step1, need, evu, un, opnds, opv, ev, cst, cst1, cstL, getT, getH, putT, onL, nxt, argT, cellsOf, PV.one, thn, inBlk, jmp, fldP, ldP, ldC, live, Cells.len, Cells.get, Cells.w, sug, ldv, bin, eqF, eq1, ops2, sh2, binv, Tk.agg, stC, apC, rdS, apS, cpC, cpS, mvL, zp, argsP, idx, fillP, toInts, chunks, mkC, ixS, ixA, oidx, slP, sl0, slA, optL, List.append, mxF, bltn, frzA, frz, frzL, frz1, pur1, Cells.pur, PV.scal, scal1, runD, rdO, PV.ids, id1, zids, ety, Eff.on, cnd, minb, and1b, ifmax, ifmin, mxv, sugI, strv, w0, w1, w2, wm1]
      repeat' (first | apply And.intro | intro _)
      any_goals (first | (refine hK32 _ ?_; clear hK32) | (first | assumption | omega | (simp only [IntKind.wrap_i64] at *; omega) | (simp_all; done) | (simp_all; omega)))
      refine swp00_block ?_
      refine swp00_loop 100 (fun m_ s_ => ∃ (i : Nat), (i ≤ st.length) ∧ s_ = ⟨[(2, .ptr 0 0 0 1), (5, .ptr 2 0 0 1), (6, .bool true), (7, .ptr 99 0 0 1), (9, .int .i64 (i : Nat))], [(0, some ⟨.rows 9 [[.int .i64 ga, .int .u8 s, .int .u8 sh, .int .i64 m, .ro (.ints .i64 g), .ro (.rows 1 (se.map fun w => [.ro (.rows 2 (w.map Sc.row))])), .ro (.rows 1 (st.map fun w => [.ro (.ints .i64 w)])), .ro (.rows 1 (tn.map fun w => [.ro (.rows 5 (w.map Fl.row))])), .ro (.ints .i64 ln)]], true, 29⟩), (2, some ⟨.rows 9 [[.int .i64 ga, .int .u8 s, .int .u8 sh, .int .i64 m, .ro (.ints .i64 g), .old 36 (.rows 1 (se.map SUs)), .old 22 (.rows 1 (st.map IUs)), .old 33 (.rows 1 (tn.map FUs)), .old 3 (.rows 1 (ln.map IU))]], true, 29⟩), (99, some ⟨.rows 9 [[.int .i64 ga, .int .u8 s, .int .u8 sh, .int .i64 m, .ro (.ints .i64 g), .sl 95 0 se.length se.length, .sl 96 0 st.length st.length, .sl 97 0 tn.length tn.length, .sl 98 0 ln.length ln.length]], true, 29⟩), (95, some ⟨.rows 1 (se.map fun w => [.ro (.rows 2 (w.map Sc.row))]), false, 36⟩), (96, some ⟨.rows 1 (st.map fun w => [.ro (.ints .i64 w)]), false, 22⟩), (97, some ⟨.rows 1 (tn.map fun w => [.ro (.rows 5 (w.map Fl.row))]), false, 33⟩), (98, some ⟨.ints .i64 ln, false, 3⟩)], 100⟩ ∧ m_ = st.length - i) _ ⟨[(2, .ptr 0 0 0 1), (5, .ptr 2 0 0 1), (6, .bool true), (7, .ptr 99 0 0 1), (9, .int .i64 (0 : Nat))], [(0, some ⟨.rows 9 [[.int .i64 ga, .int .u8 s, .int .u8 sh, .int .i64 m, .ro (.ints .i64 g), .ro (.rows 1 (se.map fun w => [.ro (.rows 2 (w.map Sc.row))])), .ro (.rows 1 (st.map fun w => [.ro (.ints .i64 w)])), .ro (.rows 1 (tn.map fun w => [.ro (.rows 5 (w.map Fl.row))])), .ro (.ints .i64 ln)]], true, 29⟩), (2, some ⟨.rows 9 [[.int .i64 ga, .int .u8 s, .int .u8 sh, .int .i64 m, .ro (.ints .i64 g), .old 36 (.rows 1 (se.map SUs)), .old 22 (.rows 1 (st.map IUs)), .old 33 (.rows 1 (tn.map FUs)), .old 3 (.rows 1 (ln.map IU))]], true, 29⟩), (99, some ⟨.rows 9 [[.int .i64 ga, .int .u8 s, .int .u8 sh, .int .i64 m, .ro (.ints .i64 g), .sl 95 0 se.length se.length, .sl 96 0 st.length st.length, .sl 97 0 tn.length tn.length, .sl 98 0 ln.length ln.length]], true, 29⟩), (95, some ⟨.rows 1 (se.map fun w => [.ro (.rows 2 (w.map Sc.row))]), false, 36⟩), (96, some ⟨.rows 1 (st.map fun w => [.ro (.ints .i64 w)]), false, 22⟩), (97, some ⟨.rows 1 (tn.map fun w => [.ro (.rows 5 (w.map Fl.row))]), false, 33⟩), (98, some ⟨.ints .i64 ln, false, 3⟩)], 100⟩ ⟨by simp [getT, PV.lo, lo1], by simp [getH, Blk.lo, Cells.lo, lo1], rfl, by omega⟩ ⟨(0), by (first | omega | (simp only [IntKind.wrap_i64] at *; omega) | (simp_all; done) | (simp_all; omega)), rfl, rfl⟩ ?_
      rintro m_ s_ ⟨i, hL33_0, rfl, rfl⟩ KL33 hL33
      have hiw : IntKind.i64.wrap ((i : Int) + 1) = (((i + 1 : Nat)) : Int) := wnext (by omega)
      refine swp00_seq fun K34 hK34 => ?_
      refine swp00_seq fun K35 hK35 => ?_
      refine swp00_regionO ty_ok ?_
      try simp (maxSteps := 1000000) [runs, gd, step1, need, evu, un, opnds, opv, ev, cst, cst1, cstL, getT, getH, putT, onL, nxt, argT, cellsOf, PV.one, thn, inBlk, jmp, fldP, ldP, ldC, live, Cells.len, Cells.get, Cells.w, sug, ldv, bin, eqF, eq1, ops2, sh2, binv, Tk.agg, stC, apC, rdS, apS, cpC, cpS, mvL, zp, argsP, idx, fillP, toInts, chunks, mkC, ixS, ixA, oidx, slP, sl0, slA, optL, List.append, mxF, bltn, frzA, frz, frzL, frz1, pur1, Cells.pur, PV.scal, scal1, runD, rdO, PV.ids, id1, zids, ety, Eff.on, cnd, minb, and1b, ifmax, ifmin, mxv, sugI, strv, w0, w1, w2, wm1, runsO, ood, stu, fno, noO, noO1, okL]
      repeat' (first | apply And.intro | intro _)
      any_goals (first | (refine hK35 _ ?_; clear hK35) | (first | assumption | omega | (simp only [IntKind.wrap_i64] at *; omega) | (simp_all; done) | (simp_all; omega)))
      refine swp00_if fun C36 hC36 => ?_
      try simp (maxSteps := 1000000) [runs, gd, step1, need, evu, un, opnds, opv, ev, cst, cst1, cstL, getT, getH, putT, onL, nxt, argT, cellsOf, PV.one, thn, inBlk, jmp, fldP, ldP, ldC, live, Cells.len, Cells.get, Cells.w, sug, ldv, bin, eqF, eq1, ops2, sh2, binv, Tk.agg, stC, apC, rdS, apS, cpC, cpS, mvL, zp, argsP, idx, fillP, toInts, chunks, mkC, ixS, ixA, oidx, slP, sl0, slA, optL, List.append, mxF, bltn, frzA, frz, frzL, frz1, pur1, Cells.pur, PV.scal, scal1, runD, rdO, PV.ids, id1, zids, ety, Eff.on, cnd, minb, and1b, ifmax, ifmin, mxv, sugI, strv, w0, w1, w2, wm1]
      refine hC36 _ (fun hc36 => ?_) (fun hc36 => ?_)
      · clear hC36
        try simp at hc36
        refine swp00_skip ?_
        try simp only [thn, inBlk]
        refine hK34 _ ?_; clear hK34
        refine swp00_seq fun K37 hK37 => ?_
        refine swp00_block ?_
        refine swp00_seq fun K38 hK38 => ?_
        have hr2 := atu_any IUs [] (l := st) (k := i) (by omega)
        have hw1 : (st[i]?.getD []).length ≤ 1000 := hLk.2.2.1 _ (mem_at (w := st) (j := i) (by omega))
        refine swp00_region ty_ok ?_
        try simp (maxSteps := 1000000) [runs, gd, step1, need, evu, un, opnds, opv, ev, cst, cst1, cstL, getT, getH, putT, onL, nxt, argT, cellsOf, PV.one, thn, inBlk, jmp, fldP, ldP, ldC, live, Cells.len, Cells.get, Cells.w, sug, ldv, bin, eqF, eq1, ops2, sh2, binv, Tk.agg, stC, apC, rdS, apS, cpC, cpS, mvL, zp, argsP, idx, fillP, toInts, chunks, mkC, ixS, ixA, oidx, slP, sl0, slA, optL, List.append, mxF, bltn, frzA, frz, frzL, frz1, pur1, Cells.pur, PV.scal, scal1, runD, rdO, PV.ids, id1, zids, ety, Eff.on, cnd, minb, and1b, ifmax, ifmin, mxv, sugI, strv, w0, w1, w2, wm1]
        repeat' (first | apply And.intro | intro _)
        any_goals (first | (refine hK38 _ ?_; clear hK38) | (first | assumption | omega | (simp only [IntKind.wrap_i64] at *; omega) | (simp_all; done) | (simp_all; omega)))
        refine swp00_block ?_
        refine swp00_loop 100 (fun m_ s_ => ∃ (j : Nat), (j ≤ (st[i]?.getD []).length) ∧ s_ = ⟨[(2, .ptr 0 0 0 1), (5, .ptr 2 0 0 1), (6, .bool true), (7, .ptr 99 0 0 1), (9, .int .i64 (i : Nat)), (10, .int .i64 (j : Nat))], [(0, some ⟨.rows 9 [[.int .i64 ga, .int .u8 s, .int .u8 sh, .int .i64 m, .ro (.ints .i64 g), .ro (.rows 1 (se.map fun w => [.ro (.rows 2 (w.map Sc.row))])), .ro (.rows 1 (st.map fun w => [.ro (.ints .i64 w)])), .ro (.rows 1 (tn.map fun w => [.ro (.rows 5 (w.map Fl.row))])), .ro (.ints .i64 ln)]], true, 29⟩), (2, some ⟨.rows 9 [[.int .i64 ga, .int .u8 s, .int .u8 sh, .int .i64 m, .ro (.ints .i64 g), .old 36 (.rows 1 (se.map SUs)), .old 22 (.rows 1 (st.map IUs)), .old 33 (.rows 1 (tn.map FUs)), .old 3 (.rows 1 (ln.map IU))]], true, 29⟩), (99, some ⟨.rows 9 [[.int .i64 ga, .int .u8 s, .int .u8 sh, .int .i64 m, .ro (.ints .i64 g), .sl 95 0 se.length se.length, .sl 96 0 st.length st.length, .sl 97 0 tn.length tn.length, .sl 98 0 ln.length ln.length]], true, 29⟩), (95, some ⟨.rows 1 (se.map fun w => [.ro (.rows 2 (w.map Sc.row))]), false, 36⟩), (96, some ⟨.rows 1 (st.map fun w => [.ro (.ints .i64 w)]), false, 22⟩), (97, some ⟨.rows 1 (tn.map fun w => [.ro (.rows 5 (w.map Fl.row))]), false, 33⟩), (98, some ⟨.ints .i64 ln, false, 3⟩)], 100⟩ ∧ m_ = (st[i]?.getD []).length - j) _ ⟨[(2, .ptr 0 0 0 1), (5, .ptr 2 0 0 1), (6, .bool true), (7, .ptr 99 0 0 1), (9, .int .i64 (i : Nat)), (10, .int .i64 (0 : Nat))], [(0, some ⟨.rows 9 [[.int .i64 ga, .int .u8 s, .int .u8 sh, .int .i64 m, .ro (.ints .i64 g), .ro (.rows 1 (se.map fun w => [.ro (.rows 2 (w.map Sc.row))])), .ro (.rows 1 (st.map fun w => [.ro (.ints .i64 w)])), .ro (.rows 1 (tn.map fun w => [.ro (.rows 5 (w.map Fl.row))])), .ro (.ints .i64 ln)]], true, 29⟩), (2, some ⟨.rows 9 [[.int .i64 ga, .int .u8 s, .int .u8 sh, .int .i64 m, .ro (.ints .i64 g), .old 36 (.rows 1 (se.map SUs)), .old 22 (.rows 1 (st.map IUs)), .old 33 (.rows 1 (tn.map FUs)), .old 3 (.rows 1 (ln.map IU))]], true, 29⟩), (99, some ⟨.rows 9 [[.int .i64 ga, .int .u8 s, .int .u8 sh, .int .i64 m, .ro (.ints .i64 g), .sl 95 0 se.length se.length, .sl 96 0 st.length st.length, .sl 97 0 tn.length tn.length, .sl 98 0 ln.length ln.length]], true, 29⟩), (95, some ⟨.rows 1 (se.map fun w => [.ro (.rows 2 (w.map Sc.row))]), false, 36⟩), (96, some ⟨.rows 1 (st.map fun w => [.ro (.ints .i64 w)]), false, 22⟩), (97, some ⟨.rows 1 (tn.map fun w => [.ro (.rows 5 (w.map Fl.row))]), false, 33⟩), (98, some ⟨.ints .i64 ln, false, 3⟩)], 100⟩ ⟨by simp [getT, PV.lo, lo1], by simp [getH, Blk.lo, Cells.lo, lo1], rfl, by omega⟩ ⟨(0), by (first | omega | (simp only [IntKind.wrap_i64] at *; omega) | (simp_all; done) | (simp_all; omega)), rfl, rfl⟩ ?_
        rintro m_ s_ ⟨j, hL39_0, rfl, rfl⟩ KL39 hL39
        have hjw : IntKind.i64.wrap ((j : Int) + 1) = (((j + 1 : Nat)) : Int) := wnext (by omega)
        refine swp00_seq fun K40 hK40 => ?_
        refine swp00_seq fun K41 hK41 => ?_
        have hr2 := atu_any IUs [] (l := st) (k := i) (by omega)
        refine swp00_regionO ty_ok ?_
        try simp (maxSteps := 1000000) [runs, gd, step1, need, evu, un, opnds, opv, ev, cst, cst1, cstL, getT, getH, putT, onL, nxt, argT, cellsOf, PV.one, thn, inBlk, jmp, fldP, ldP, ldC, live, Cells.len, Cells.get, Cells.w, sug, ldv, bin, eqF, eq1, ops2, sh2, binv, Tk.agg, stC, apC, rdS, apS, cpC, cpS, mvL, zp, argsP, idx, fillP, toInts, chunks, mkC, ixS, ixA, oidx, slP, sl0, slA, optL, List.append, mxF, bltn, frzA, frz, frzL, frz1, pur1, Cells.pur, PV.scal, scal1, runD, rdO, PV.ids, id1, zids, ety, Eff.on, cnd, minb, and1b, ifmax, ifmin, mxv, sugI, strv, w0, w1, w2, wm1, hr2, IUs, runsO, ood, stu, fno, noO, noO1, okL]
        repeat' (first | apply And.intro | intro _)
        any_goals (first | (refine hK41 _ ?_; clear hK41) | (first | assumption | omega | (simp only [IntKind.wrap_i64] at *; omega) | (simp_all; done) | (simp_all; omega)))
        refine swp00_if fun C42 hC42 => ?_
        try simp (maxSteps := 1000000) [runs, gd, step1, need, evu, un, opnds, opv, ev, cst, cst1, cstL, getT, getH, putT, onL, nxt, argT, cellsOf, PV.one, thn, inBlk, jmp, fldP, ldP, ldC, live, Cells.len, Cells.get, Cells.w, sug, ldv, bin, eqF, eq1, ops2, sh2, binv, Tk.agg, stC, apC, rdS, apS, cpC, cpS, mvL, zp, argsP, idx, fillP, toInts, chunks, mkC, ixS, ixA, oidx, slP, sl0, slA, optL, List.append, mxF, bltn, frzA, frz, frzL, frz1, pur1, Cells.pur, PV.scal, scal1, runD, rdO, PV.ids, id1, zids, ety, Eff.on, cnd, minb, and1b, ifmax, ifmin, mxv, sugI, strv, w0, w1, w2, wm1, hr2, IUs]
        refine hC42 _ (fun hc42 => ?_) (fun hc42 => ?_)
        · clear hC42
          try simp at hc42
          refine swp00_skip ?_
          try simp only [thn, inBlk]
          refine hK40 _ ?_; clear hK40
          refine swp00_seq fun K43 hK43 => ?_
          refine swp00_block ?_
          have hr2 := atu_any IUs [] (l := st) (k := i) (by omega)
          have hr3 := atu_any IU 0 (l := (st[i]?.getD [])) (k := j) (by omega)
          refine swp00_regionO ty_ok ?_
          try simp (maxSteps := 1000000) [runs, gd, step1, need, evu, un, opnds, opv, ev, cst, cst1, cstL, getT, getH, putT, onL, nxt, argT, cellsOf, PV.one, thn, inBlk, jmp, fldP, ldP, ldC, live, Cells.len, Cells.get, Cells.w, sug, ldv, bin, eqF, eq1, ops2, sh2, binv, Tk.agg, stC, apC, rdS, apS, cpC, cpS, mvL, zp, argsP, idx, fillP, toInts, chunks, mkC, ixS, ixA, oidx, slP, sl0, slA, optL, List.append, mxF, bltn, frzA, frz, frzL, frz1, pur1, Cells.pur, PV.scal, scal1, runD, rdO, PV.ids, id1, zids, ety, Eff.on, cnd, minb, and1b, ifmax, ifmin, mxv, sugI, strv, w0, w1, w2, wm1, hr2, hr3, IUs, IU, runsO, ood, stu, fno, noO, noO1, okL]
          repeat' (first | apply And.intro | intro _)
          any_goals (first | (refine hK43 _ ?_; clear hK43) | (first | assumption | omega | (simp only [IntKind.wrap_i64] at *; omega) | (simp_all; done) | (simp_all; omega)))
          refine swp00_region ty_ok ?_
          try simp (maxSteps := 1000000) [runs, gd, step1, need, evu, un, opnds, opv, ev, cst, cst1, cstL, getT, getH, putT, onL, nxt, argT, cellsOf, PV.one, thn, inBlk, jmp, fldP, ldP, ldC, live, Cells.len, Cells.get, Cells.w, sug, ldv, bin, eqF, eq1, ops2, sh2, binv, Tk.agg, stC, apC, rdS, apS, cpC, cpS, mvL, zp, argsP, idx, fillP, toInts, chunks, mkC, ixS, ixA, oidx, slP, sl0, slA, optL, List.append, mxF, bltn, frzA, frz, frzL, frz1, pur1, Cells.pur, PV.scal, scal1, runD, rdO, PV.ids, id1, zids, ety, Eff.on, cnd, minb, and1b, ifmax, ifmin, mxv, sugI, strv, w0, w1, w2, wm1]
          repeat' apply And.intro
          any_goals (try omega)
          refine hL39 _ ⟨[(2, .ptr 0 0 0 1), (5, .ptr 2 0 0 1), (6, .bool true), (7, .ptr 99 0 0 1), (9, .int .i64 (i : Nat)), (10, .int .i64 ((j + 1) : Nat))], [(0, some ⟨.rows 9 [[.int .i64 ga, .int .u8 s, .int .u8 sh, .int .i64 m, .ro (.ints .i64 g), .ro (.rows 1 (se.map fun w => [.ro (.rows 2 (w.map Sc.row))])), .ro (.rows 1 (st.map fun w => [.ro (.ints .i64 w)])), .ro (.rows 1 (tn.map fun w => [.ro (.rows 5 (w.map Fl.row))])), .ro (.ints .i64 ln)]], true, 29⟩), (2, some ⟨.rows 9 [[.int .i64 ga, .int .u8 s, .int .u8 sh, .int .i64 m, .ro (.ints .i64 g), .old 36 (.rows 1 (se.map SUs)), .old 22 (.rows 1 (st.map IUs)), .old 33 (.rows 1 (tn.map FUs)), .old 3 (.rows 1 (ln.map IU))]], true, 29⟩), (99, some ⟨.rows 9 [[.int .i64 ga, .int .u8 s, .int .u8 sh, .int .i64 m, .ro (.ints .i64 g), .sl 95 0 se.length se.length, .sl 96 0 st.length st.length, .sl 97 0 tn.length tn.length, .sl 98 0 ln.length ln.length]], true, 29⟩), (95, some ⟨.rows 1 (se.map fun w => [.ro (.rows 2 (w.map Sc.row))]), false, 36⟩), (96, some ⟨.rows 1 (st.map fun w => [.ro (.ints .i64 w)]), false, 22⟩), (97, some ⟨.rows 1 (tn.map fun w => [.ro (.rows 5 (w.map Fl.row))]), false, 33⟩), (98, some ⟨.ints .i64 ln, false, 3⟩)], 100⟩ _ ?_ ⟨(j + 1), by (first | omega | (simp only [IntKind.wrap_i64] at *; omega) | (simp_all; done) | (simp_all; omega)), rfl, rfl⟩ ⟨by simp [getT, PV.lo, lo1, hjw], by simp [getH, Blk.lo, Cells.lo, lo1], rfl, by omega⟩
          omega
        · clear hC42
          try simp at hc42
          refine swp00_exit ?_
          simp [thn, inBlk]
          refine hK37 _ ?_; clear hK37
          refine swp00_region ty_ok ?_
          try simp (maxSteps := 1000000) [runs, gd, step1, need, evu, un, opnds, opv, ev, cst, cst1, cstL, getT, getH, putT, onL, nxt, argT, cellsOf, PV.one, thn, inBlk, jmp, fldP, ldP, ldC, live, Cells.len, Cells.get, Cells.w, sug, ldv, bin, eqF, eq1, ops2, sh2, binv, Tk.agg, stC, apC, rdS, apS, cpC, cpS, mvL, zp, argsP, idx, fillP, toInts, chunks, mkC, ixS, ixA, oidx, slP, sl0, slA, optL, List.append, mxF, bltn, frzA, frz, frzL, frz1, pur1, Cells.pur, PV.scal, scal1, runD, rdO, PV.ids, id1, zids, ety, Eff.on, cnd, minb, and1b, ifmax, ifmin, mxv, sugI, strv, w0, w1, w2, wm1]
          repeat' apply And.intro
          any_goals (try omega)
          refine hL33 _ ⟨[(2, .ptr 0 0 0 1), (5, .ptr 2 0 0 1), (6, .bool true), (7, .ptr 99 0 0 1), (9, .int .i64 ((i + 1) : Nat))], [(0, some ⟨.rows 9 [[.int .i64 ga, .int .u8 s, .int .u8 sh, .int .i64 m, .ro (.ints .i64 g), .ro (.rows 1 (se.map fun w => [.ro (.rows 2 (w.map Sc.row))])), .ro (.rows 1 (st.map fun w => [.ro (.ints .i64 w)])), .ro (.rows 1 (tn.map fun w => [.ro (.rows 5 (w.map Fl.row))])), .ro (.ints .i64 ln)]], true, 29⟩), (2, some ⟨.rows 9 [[.int .i64 ga, .int .u8 s, .int .u8 sh, .int .i64 m, .ro (.ints .i64 g), .old 36 (.rows 1 (se.map SUs)), .old 22 (.rows 1 (st.map IUs)), .old 33 (.rows 1 (tn.map FUs)), .old 3 (.rows 1 (ln.map IU))]], true, 29⟩), (99, some ⟨.rows 9 [[.int .i64 ga, .int .u8 s, .int .u8 sh, .int .i64 m, .ro (.ints .i64 g), .sl 95 0 se.length se.length, .sl 96 0 st.length st.length, .sl 97 0 tn.length tn.length, .sl 98 0 ln.length ln.length]], true, 29⟩), (95, some ⟨.rows 1 (se.map fun w => [.ro (.rows 2 (w.map Sc.row))]), false, 36⟩), (96, some ⟨.rows 1 (st.map fun w => [.ro (.ints .i64 w)]), false, 22⟩), (97, some ⟨.rows 1 (tn.map fun w => [.ro (.rows 5 (w.map Fl.row))]), false, 33⟩), (98, some ⟨.ints .i64 ln, false, 3⟩)], 100⟩ _ ?_ ⟨(i + 1), by (first | omega | (simp only [IntKind.wrap_i64] at *; omega) | (simp_all; done) | (simp_all; omega)), rfl, rfl⟩ ⟨by simp [getT, PV.lo, lo1, hiw], by simp [getH, Blk.lo, Cells.lo, lo1], rfl, by omega⟩
          omega
      · clear hC36
        try simp at hc36
        refine swp00_exit ?_
        simp [thn, inBlk]
        refine hK31 _ ?_; clear hK31
        refine swp00_seq fun K44 hK44 => ?_
        refine swp00_seq fun K45 hK45 => ?_
        refine swp00_region ty_ok ?_
        try simp (maxSteps := 1000000) [runs, gd, step1, need, evu, un, opnds, opv, ev, cst, cst1, cstL, getT, getH, putT, onL, nxt, argT, cellsOf, PV.one, thn, inBlk, jmp, fldP, ldP, ldC, live, Cells.len, Cells.get, Cells.w, sug, ldv, bin, eqF, eq1, ops2, sh2, binv, Tk.agg, stC, apC, rdS, apS, cpC, cpS, mvL, zp, argsP, idx, fillP, toInts, chunks, mkC, ixS, ixA, oidx, slP, sl0, slA, optL, List.append, mxF, bltn, frzA, frz, frzL, frz1, pur1, Cells.pur, PV.scal, scal1, runD, rdO, PV.ids, id1, zids, ety, Eff.on, cnd, minb, and1b, ifmax, ifmin, mxv, sugI, strv, w0, w1, w2, wm1]
        repeat' (first | apply And.intro | intro _)
        any_goals (first | (refine hK45 _ ?_; clear hK45) | (first | assumption | omega | (simp only [IntKind.wrap_i64] at *; omega) | (simp_all; done) | (simp_all; omega)))
        refine swp00_block ?_
        refine swp00_loop 100 (fun m_ s_ => ∃ (i : Nat), (i ≤ tn.length) ∧ s_ = ⟨[(2, .ptr 0 0 0 1), (5, .ptr 2 0 0 1), (6, .bool true), (7, .ptr 99 0 0 1), (11, .int .i64 (i : Nat))], [(0, some ⟨.rows 9 [[.int .i64 ga, .int .u8 s, .int .u8 sh, .int .i64 m, .ro (.ints .i64 g), .ro (.rows 1 (se.map fun w => [.ro (.rows 2 (w.map Sc.row))])), .ro (.rows 1 (st.map fun w => [.ro (.ints .i64 w)])), .ro (.rows 1 (tn.map fun w => [.ro (.rows 5 (w.map Fl.row))])), .ro (.ints .i64 ln)]], true, 29⟩), (2, some ⟨.rows 9 [[.int .i64 ga, .int .u8 s, .int .u8 sh, .int .i64 m, .ro (.ints .i64 g), .old 36 (.rows 1 (se.map SUs)), .old 22 (.rows 1 (st.map IUs)), .old 33 (.rows 1 (tn.map FUs)), .old 3 (.rows 1 (ln.map IU))]], true, 29⟩), (99, some ⟨.rows 9 [[.int .i64 ga, .int .u8 s, .int .u8 sh, .int .i64 m, .ro (.ints .i64 g), .sl 95 0 se.length se.length, .sl 96 0 st.length st.length, .sl 97 0 tn.length tn.length, .sl 98 0 ln.length ln.length]], true, 29⟩), (95, some ⟨.rows 1 (se.map fun w => [.ro (.rows 2 (w.map Sc.row))]), false, 36⟩), (96, some ⟨.rows 1 (st.map fun w => [.ro (.ints .i64 w)]), false, 22⟩), (97, some ⟨.rows 1 (tn.map fun w => [.ro (.rows 5 (w.map Fl.row))]), false, 33⟩), (98, some ⟨.ints .i64 ln, false, 3⟩)], 100⟩ ∧ m_ = tn.length - i) _ ⟨[(2, .ptr 0 0 0 1), (5, .ptr 2 0 0 1), (6, .bool true), (7, .ptr 99 0 0 1), (11, .int .i64 (0 : Nat))], [(0, some ⟨.rows 9 [[.int .i64 ga, .int .u8 s, .int .u8 sh, .int .i64 m, .ro (.ints .i64 g), .ro (.rows 1 (se.map fun w => [.ro (.rows 2 (w.map Sc.row))])), .ro (.rows 1 (st.map fun w => [.ro (.ints .i64 w)])), .ro (.rows 1 (tn.map fun w => [.ro (.rows 5 (w.map Fl.row))])), .ro (.ints .i64 ln)]], true, 29⟩), (2, some ⟨.rows 9 [[.int .i64 ga, .int .u8 s, .int .u8 sh, .int .i64 m, .ro (.ints .i64 g), .old 36 (.rows 1 (se.map SUs)), .old 22 (.rows 1 (st.map IUs)), .old 33 (.rows 1 (tn.map FUs)), .old 3 (.rows 1 (ln.map IU))]], true, 29⟩), (99, some ⟨.rows 9 [[.int .i64 ga, .int .u8 s, .int .u8 sh, .int .i64 m, .ro (.ints .i64 g), .sl 95 0 se.length se.length, .sl 96 0 st.length st.length, .sl 97 0 tn.length tn.length, .sl 98 0 ln.length ln.length]], true, 29⟩), (95, some ⟨.rows 1 (se.map fun w => [.ro (.rows 2 (w.map Sc.row))]), false, 36⟩), (96, some ⟨.rows 1 (st.map fun w => [.ro (.ints .i64 w)]), false, 22⟩), (97, some ⟨.rows 1 (tn.map fun w => [.ro (.rows 5 (w.map Fl.row))]), false, 33⟩), (98, some ⟨.ints .i64 ln, false, 3⟩)], 100⟩ ⟨by simp [getT, PV.lo, lo1], by simp [getH, Blk.lo, Cells.lo, lo1], rfl, by omega⟩ ⟨(0), by (first | omega | (simp only [IntKind.wrap_i64] at *; omega) | (simp_all; done) | (simp_all; omega)), rfl, rfl⟩ ?_
        rintro m_ s_ ⟨i, hL46_0, rfl, rfl⟩ KL46 hL46
        have hiw : IntKind.i64.wrap ((i : Int) + 1) = (((i + 1 : Nat)) : Int) := wnext (by omega)
        refine swp00_seq fun K47 hK47 => ?_
        refine swp00_seq fun K48 hK48 => ?_
        refine swp00_regionO ty_ok ?_
        try simp (maxSteps := 1000000) [runs, gd, step1, need, evu, un, opnds, opv, ev, cst, cst1, cstL, getT, getH, putT, onL, nxt, argT, cellsOf, PV.one, thn, inBlk, jmp, fldP, ldP, ldC, live, Cells.len, Cells.get, Cells.w, sug, ldv, bin, eqF, eq1, ops2, sh2, binv, Tk.agg, stC, apC, rdS, apS, cpC, cpS, mvL, zp, argsP, idx, fillP, toInts, chunks, mkC, ixS, ixA, oidx, slP, sl0, slA, optL, List.append, mxF, bltn, frzA, frz, frzL, frz1, pur1, Cells.pur, PV.scal, scal1, runD, rdO, PV.ids, id1, zids, ety, Eff.on, cnd, minb, and1b, ifmax, ifmin, mxv, sugI, strv, w0, w1, w2, wm1, runsO, ood, stu, fno, noO, noO1, okL]
        repeat' (first | apply And.intro | intro _)
        any_goals (first | (refine hK48 _ ?_; clear hK48) | (first | assumption | omega | (simp only [IntKind.wrap_i64] at *; omega) | (simp_all; done) | (simp_all; omega)))
        refine swp00_if fun C49 hC49 => ?_
        try simp (maxSteps := 1000000) [runs, gd, step1, need, evu, un, opnds, opv, ev, cst, cst1, cstL, getT, getH, putT, onL, nxt, argT, cellsOf, PV.one, thn, inBlk, jmp, fldP, ldP, ldC, live, Cells.len, Cells.get, Cells.w, sug, ldv, bin, eqF, eq1, ops2, sh2, binv, Tk.agg, stC, apC, rdS, apS, cpC, cpS, mvL, zp, argsP, idx, fillP, toInts, chunks, mkC, ixS, ixA, oidx, slP, sl0, slA, optL, List.append, mxF, bltn, frzA, frz, frzL, frz1, pur1, Cells.pur, PV.scal, scal1, runD, rdO, PV.ids, id1, zids, ety, Eff.on, cnd, minb, and1b, ifmax, ifmin, mxv, sugI, strv, w0, w1, w2, wm1]
        refine hC49 _ (fun hc49 => ?_) (fun hc49 => ?_)
        · clear hC49
          try simp at hc49
          refine swp00_skip ?_
          try simp only [thn, inBlk]
          refine hK47 _ ?_; clear hK47
          refine swp00_seq fun K50 hK50 => ?_
          refine swp00_block ?_
          refine swp00_seq fun K51 hK51 => ?_
          have hr4 := atu_any FUs [] (l := tn) (k := i) (by omega)
          have hw2 : (tn[i]?.getD []).length ≤ 1000 := (fun w hw => (hLk.2.2.2 w hw).1) _ (mem_at (w := tn) (j := i) (by omega))
          refine swp00_region ty_ok ?_
          try simp (maxSteps := 1000000) [runs, gd, step1, need, evu, un, opnds, opv, ev, cst, cst1, cstL, getT, getH, putT, onL, nxt, argT, cellsOf, PV.one, thn, inBlk, jmp, fldP, ldP, ldC, live, Cells.len, Cells.get, Cells.w, sug, ldv, bin, eqF, eq1, ops2, sh2, binv, Tk.agg, stC, apC, rdS, apS, cpC, cpS, mvL, zp, argsP, idx, fillP, toInts, chunks, mkC, ixS, ixA, oidx, slP, sl0, slA, optL, List.append, mxF, bltn, frzA, frz, frzL, frz1, pur1, Cells.pur, PV.scal, scal1, runD, rdO, PV.ids, id1, zids, ety, Eff.on, cnd, minb, and1b, ifmax, ifmin, mxv, sugI, strv, w0, w1, w2, wm1]
          repeat' (first | apply And.intro | intro _)
          any_goals (first | (refine hK51 _ ?_; clear hK51) | (first | assumption | omega | (simp only [IntKind.wrap_i64] at *; omega) | (simp_all; done) | (simp_all; omega)))
          refine swp00_block ?_
          refine swp00_loop 100 (fun m_ s_ => ∃ (j : Nat), (j ≤ (tn[i]?.getD []).length) ∧ s_ = ⟨[(2, .ptr 0 0 0 1), (5, .ptr 2 0 0 1), (6, .bool true), (7, .ptr 99 0 0 1), (11, .int .i64 (i : Nat)), (12, .int .i64 (j : Nat))], [(0, some ⟨.rows 9 [[.int .i64 ga, .int .u8 s, .int .u8 sh, .int .i64 m, .ro (.ints .i64 g), .ro (.rows 1 (se.map fun w => [.ro (.rows 2 (w.map Sc.row))])), .ro (.rows 1 (st.map fun w => [.ro (.ints .i64 w)])), .ro (.rows 1 (tn.map fun w => [.ro (.rows 5 (w.map Fl.row))])), .ro (.ints .i64 ln)]], true, 29⟩), (2, some ⟨.rows 9 [[.int .i64 ga, .int .u8 s, .int .u8 sh, .int .i64 m, .ro (.ints .i64 g), .old 36 (.rows 1 (se.map SUs)), .old 22 (.rows 1 (st.map IUs)), .old 33 (.rows 1 (tn.map FUs)), .old 3 (.rows 1 (ln.map IU))]], true, 29⟩), (99, some ⟨.rows 9 [[.int .i64 ga, .int .u8 s, .int .u8 sh, .int .i64 m, .ro (.ints .i64 g), .sl 95 0 se.length se.length, .sl 96 0 st.length st.length, .sl 97 0 tn.length tn.length, .sl 98 0 ln.length ln.length]], true, 29⟩), (95, some ⟨.rows 1 (se.map fun w => [.ro (.rows 2 (w.map Sc.row))]), false, 36⟩), (96, some ⟨.rows 1 (st.map fun w => [.ro (.ints .i64 w)]), false, 22⟩), (97, some ⟨.rows 1 (tn.map fun w => [.ro (.rows 5 (w.map Fl.row))]), false, 33⟩), (98, some ⟨.ints .i64 ln, false, 3⟩)], 100⟩ ∧ m_ = (tn[i]?.getD []).length - j) _ ⟨[(2, .ptr 0 0 0 1), (5, .ptr 2 0 0 1), (6, .bool true), (7, .ptr 99 0 0 1), (11, .int .i64 (i : Nat)), (12, .int .i64 (0 : Nat))], [(0, some ⟨.rows 9 [[.int .i64 ga, .int .u8 s, .int .u8 sh, .int .i64 m, .ro (.ints .i64 g), .ro (.rows 1 (se.map fun w => [.ro (.rows 2 (w.map Sc.row))])), .ro (.rows 1 (st.map fun w => [.ro (.ints .i64 w)])), .ro (.rows 1 (tn.map fun w => [.ro (.rows 5 (w.map Fl.row))])), .ro (.ints .i64 ln)]], true, 29⟩), (2, some ⟨.rows 9 [[.int .i64 ga, .int .u8 s, .int .u8 sh, .int .i64 m, .ro (.ints .i64 g), .old 36 (.rows 1 (se.map SUs)), .old 22 (.rows 1 (st.map IUs)), .old 33 (.rows 1 (tn.map FUs)), .old 3 (.rows 1 (ln.map IU))]], true, 29⟩), (99, some ⟨.rows 9 [[.int .i64 ga, .int .u8 s, .int .u8 sh, .int .i64 m, .ro (.ints .i64 g), .sl 95 0 se.length se.length, .sl 96 0 st.length st.length, .sl 97 0 tn.length tn.length, .sl 98 0 ln.length ln.length]], true, 29⟩), (95, some ⟨.rows 1 (se.map fun w => [.ro (.rows 2 (w.map Sc.row))]), false, 36⟩), (96, some ⟨.rows 1 (st.map fun w => [.ro (.ints .i64 w)]), false, 22⟩), (97, some ⟨.rows 1 (tn.map fun w => [.ro (.rows 5 (w.map Fl.row))]), false, 33⟩), (98, some ⟨.ints .i64 ln, false, 3⟩)], 100⟩ ⟨by simp [getT, PV.lo, lo1], by simp [getH, Blk.lo, Cells.lo, lo1], rfl, by omega⟩ ⟨(0), by (first | omega | (simp only [IntKind.wrap_i64] at *; omega) | (simp_all; done) | (simp_all; omega)), rfl, rfl⟩ ?_
          rintro m_ s_ ⟨j, hL52_0, rfl, rfl⟩ KL52 hL52
          have hjw : IntKind.i64.wrap ((j : Int) + 1) = (((j + 1 : Nat)) : Int) := wnext (by omega)
          refine swp00_seq fun K53 hK53 => ?_
          refine swp00_seq fun K54 hK54 => ?_
          have hr4 := atu_any FUs [] (l := tn) (k := i) (by omega)
          refine swp00_regionO ty_ok ?_
          try simp (maxSteps := 1000000) [runs, gd, step1, need, evu, un, opnds, opv, ev, cst, cst1, cstL, getT, getH, putT, onL, nxt, argT, cellsOf, PV.one, thn, inBlk, jmp, fldP, ldP, ldC, live, Cells.len, Cells.get, Cells.w, sug, ldv, bin, eqF, eq1, ops2, sh2, binv, Tk.agg, stC, apC, rdS, apS, cpC, cpS, mvL, zp, argsP, idx, fillP, toInts, chunks, mkC, ixS, ixA, oidx, slP, sl0, slA, optL, List.append, mxF, bltn, frzA, frz, frzL, frz1, pur1, Cells.pur, PV.scal, scal1, runD, rdO, PV.ids, id1, zids, ety, Eff.on, cnd, minb, and1b, ifmax, ifmin, mxv, sugI, strv, w0, w1, w2, wm1, hr4, FUs, runsO, ood, stu, fno, noO, noO1, okL]
          repeat' (first | apply And.intro | intro _)
          any_goals (first | (refine hK54 _ ?_; clear hK54) | (first | assumption | omega | (simp only [IntKind.wrap_i64] at *; omega) | (simp_all; done) | (simp_all; omega)))
          refine swp00_if fun C55 hC55 => ?_
          try simp (maxSteps := 1000000) [runs, gd, step1, need, evu, un, opnds, opv, ev, cst, cst1, cstL, getT, getH, putT, onL, nxt, argT, cellsOf, PV.one, thn, inBlk, jmp, fldP, ldP, ldC, live, Cells.len, Cells.get, Cells.w, sug, ldv, bin, eqF, eq1, ops2, sh2, binv, Tk.agg, stC, apC, rdS, apS, cpC, cpS, mvL, zp, argsP, idx, fillP, toInts, chunks, mkC, ixS, ixA, oidx, slP, sl0, slA, optL, List.append, mxF, bltn, frzA, frz, frzL, frz1, pur1, Cells.pur, PV.scal, scal1, runD, rdO, PV.ids, id1, zids, ety, Eff.on, cnd, minb, and1b, ifmax, ifmin, mxv, sugI, strv, w0, w1, w2, wm1, hr4, FUs]
          refine hC55 _ (fun hc55 => ?_) (fun hc55 => ?_)
          · clear hC55
            try simp at hc55
            refine swp00_skip ?_
            try simp only [thn, inBlk]
            refine hK53 _ ?_; clear hK53
            refine swp00_seq fun K56 hK56 => ?_
            refine swp00_block ?_
            refine swp00_seq fun K57 hK57 => ?_
            have hr4 := atu_any FUs [] (l := tn) (k := i) (by omega)
            have hr5 := atu_any FU default (l := (tn[i]?.getD [])) (k := j) (by omega)
            have hw3 : ((tn[i]?.getD [])[j]?.getD default).co.length ≤ 1000 := (hLk.2.2.2 _ (mem_at (w := tn) (j := i) (by omega))).2 _ (mem_at (w := (tn[i]?.getD [])) (j := j) (by omega))
            refine swp00_regionO ty_ok ?_
            try simp (maxSteps := 1000000) [runs, gd, step1, need, evu, un, opnds, opv, ev, cst, cst1, cstL, getT, getH, putT, onL, nxt, argT, cellsOf, PV.one, thn, inBlk, jmp, fldP, ldP, ldC, live, Cells.len, Cells.get, Cells.w, sug, ldv, bin, eqF, eq1, ops2, sh2, binv, Tk.agg, stC, apC, rdS, apS, cpC, cpS, mvL, zp, argsP, idx, fillP, toInts, chunks, mkC, ixS, ixA, oidx, slP, sl0, slA, optL, List.append, mxF, bltn, frzA, frz, frzL, frz1, pur1, Cells.pur, PV.scal, scal1, runD, rdO, PV.ids, id1, zids, ety, Eff.on, cnd, minb, and1b, ifmax, ifmin, mxv, sugI, strv, w0, w1, w2, wm1, hr4, hr5, FUs, FU, runsO, ood, stu, fno, noO, noO1, okL]
            repeat' (first | apply And.intro | intro _)
            any_goals (first | (refine hK57 _ ?_; clear hK57) | (first | assumption | omega | (simp only [IntKind.wrap_i64] at *; omega) | (simp_all; done) | (simp_all; omega)))
            refine swp00_seq fun K58 hK58 => ?_
            refine swp00_region ty_ok ?_
            try simp (maxSteps := 1000000) [runs, gd, step1, need, evu, un, opnds, opv, ev, cst, cst1, cstL, getT, getH, putT, onL, nxt, argT, cellsOf, PV.one, thn, inBlk, jmp, fldP, ldP, ldC, live, Cells.len, Cells.get, Cells.w, sug, ldv, bin, eqF, eq1, ops2, sh2, binv, Tk.agg, stC, apC, rdS, apS, cpC, cpS, mvL, zp, argsP, idx, fillP, toInts, chunks, mkC, ixS, ixA, oidx, slP, sl0, slA, optL, List.append, mxF, bltn, frzA, frz, frzL, frz1, pur1, Cells.pur, PV.scal, scal1, runD, rdO, PV.ids, id1, zids, ety, Eff.on, cnd, minb, and1b, ifmax, ifmin, mxv, sugI, strv, w0, w1, w2, wm1]
            repeat' (first | apply And.intro | intro _)
            any_goals (first | (refine hK58 _ ?_; clear hK58) | (first | assumption | omega | (simp only [IntKind.wrap_i64] at *; omega) | (simp_all; done) | (simp_all; omega)))
            refine swp00_block ?_
            refine swp00_loop 100 (fun m_ s_ => ∃ (k : Nat), (k ≤ ((tn[i]?.getD [])[j]?.getD default).co.length) ∧ s_ = ⟨[(2, .ptr 0 0 0 1), (5, .ptr 2 0 0 1), (6, .bool true), (7, .ptr 99 0 0 1), (11, .int .i64 (i : Nat)), (12, .int .i64 (j : Nat)), (13, .int .i64 (k : Nat))], [(0, some ⟨.rows 9 [[.int .i64 ga, .int .u8 s, .int .u8 sh, .int .i64 m, .ro (.ints .i64 g), .ro (.rows 1 (se.map fun w => [.ro (.rows 2 (w.map Sc.row))])), .ro (.rows 1 (st.map fun w => [.ro (.ints .i64 w)])), .ro (.rows 1 (tn.map fun w => [.ro (.rows 5 (w.map Fl.row))])), .ro (.ints .i64 ln)]], true, 29⟩), (2, some ⟨.rows 9 [[.int .i64 ga, .int .u8 s, .int .u8 sh, .int .i64 m, .ro (.ints .i64 g), .old 36 (.rows 1 (se.map SUs)), .old 22 (.rows 1 (st.map IUs)), .old 33 (.rows 1 (tn.map FUs)), .old 3 (.rows 1 (ln.map IU))]], true, 29⟩), (99, some ⟨.rows 9 [[.int .i64 ga, .int .u8 s, .int .u8 sh, .int .i64 m, .ro (.ints .i64 g), .sl 95 0 se.length se.length, .sl 96 0 st.length st.length, .sl 97 0 tn.length tn.length, .sl 98 0 ln.length ln.length]], true, 29⟩), (95, some ⟨.rows 1 (se.map fun w => [.ro (.rows 2 (w.map Sc.row))]), false, 36⟩), (96, some ⟨.rows 1 (st.map fun w => [.ro (.ints .i64 w)]), false, 22⟩), (97, some ⟨.rows 1 (tn.map fun w => [.ro (.rows 5 (w.map Fl.row))]), false, 33⟩), (98, some ⟨.ints .i64 ln, false, 3⟩)], 100⟩ ∧ m_ = ((tn[i]?.getD [])[j]?.getD default).co.length - k) _ ⟨[(2, .ptr 0 0 0 1), (5, .ptr 2 0 0 1), (6, .bool true), (7, .ptr 99 0 0 1), (11, .int .i64 (i : Nat)), (12, .int .i64 (j : Nat)), (13, .int .i64 (0 : Nat))], [(0, some ⟨.rows 9 [[.int .i64 ga, .int .u8 s, .int .u8 sh, .int .i64 m, .ro (.ints .i64 g), .ro (.rows 1 (se.map fun w => [.ro (.rows 2 (w.map Sc.row))])), .ro (.rows 1 (st.map fun w => [.ro (.ints .i64 w)])), .ro (.rows 1 (tn.map fun w => [.ro (.rows 5 (w.map Fl.row))])), .ro (.ints .i64 ln)]], true, 29⟩), (2, some ⟨.rows 9 [[.int .i64 ga, .int .u8 s, .int .u8 sh, .int .i64 m, .ro (.ints .i64 g), .old 36 (.rows 1 (se.map SUs)), .old 22 (.rows 1 (st.map IUs)), .old 33 (.rows 1 (tn.map FUs)), .old 3 (.rows 1 (ln.map IU))]], true, 29⟩), (99, some ⟨.rows 9 [[.int .i64 ga, .int .u8 s, .int .u8 sh, .int .i64 m, .ro (.ints .i64 g), .sl 95 0 se.length se.length, .sl 96 0 st.length st.length, .sl 97 0 tn.length tn.length, .sl 98 0 ln.length ln.length]], true, 29⟩), (95, some ⟨.rows 1 (se.map fun w => [.ro (.rows 2 (w.map Sc.row))]), false, 36⟩), (96, some ⟨.rows 1 (st.map fun w => [.ro (.ints .i64 w)]), false, 22⟩), (97, some ⟨.rows 1 (tn.map fun w => [.ro (.rows 5 (w.map Fl.row))]), false, 33⟩), (98, some ⟨.ints .i64 ln, false, 3⟩)], 100⟩ ⟨by simp [getT, PV.lo, lo1], by simp [getH, Blk.lo, Cells.lo, lo1], rfl, by omega⟩ ⟨(0), by (first | omega | (simp only [IntKind.wrap_i64] at *; omega) | (simp_all; done) | (simp_all; omega)), rfl, rfl⟩ ?_
            rintro m_ s_ ⟨k, hL59_0, rfl, rfl⟩ KL59 hL59
            have hkw : IntKind.i64.wrap ((k : Int) + 1) = (((k + 1 : Nat)) : Int) := wnext (by omega)
            refine swp00_seq fun K60 hK60 => ?_
            refine swp00_seq fun K61 hK61 => ?_
            have hr4 := atu_any FUs [] (l := tn) (k := i) (by omega)
            have hr5 := atu_any FU default (l := (tn[i]?.getD [])) (k := j) (by omega)
            refine swp00_regionO ty_ok ?_
            try simp (maxSteps := 1000000) [runs, gd, step1, need, evu, un, opnds, opv, ev, cst, cst1, cstL, getT, getH, putT, onL, nxt, argT, cellsOf, PV.one, thn, inBlk, jmp, fldP, ldP, ldC, live, Cells.len, Cells.get, Cells.w, sug, ldv, bin, eqF, eq1, ops2, sh2, binv, Tk.agg, stC, apC, rdS, apS, cpC, cpS, mvL, zp, argsP, idx, fillP, toInts, chunks, mkC, ixS, ixA, oidx, slP, sl0, slA, optL, List.append, mxF, bltn, frzA, frz, frzL, frz1, pur1, Cells.pur, PV.scal, scal1, runD, rdO, PV.ids, id1, zids, ety, Eff.on, cnd, minb, and1b, ifmax, ifmin, mxv, sugI, strv, w0, w1, w2, wm1, hr4, hr5, FUs, FU, runsO, ood, stu, fno, noO, noO1, okL]
            repeat' (first | apply And.intro | intro _)
            any_goals (first | (refine hK61 _ ?_; clear hK61) | (first | assumption | omega | (simp only [IntKind.wrap_i64] at *; omega) | (simp_all; done) | (simp_all; omega)))
            refine swp00_if fun C62 hC62 => ?_
            try simp (maxSteps := 1000000) [runs, gd, step1, need, evu, un, opnds, opv, ev, cst, cst1, cstL, getT, getH, putT, onL, nxt, argT, cellsOf, PV.one, thn, inBlk, jmp, fldP, ldP, ldC, live, Cells.len, Cells.get, Cells.w, sug, ldv, bin, eqF, eq1, ops2, sh2, binv, Tk.agg, stC, apC, rdS, apS, cpC, cpS, mvL, zp, argsP, idx, fillP, toInts, chunks, mkC, ixS, ixA, oidx, slP, sl0, slA, optL, List.append, mxF, bltn, frzA, frz, frzL, frz1, pur1, Cells.pur, PV.scal, scal1, runD, rdO, PV.ids, id1, zids, ety, Eff.on, cnd, minb, and1b, ifmax, ifmin, mxv, sugI, strv, w0, w1, w2, wm1, hr4, hr5, FUs, FU]
            refine hC62 _ (fun hc62 => ?_) (fun hc62 => ?_)
            · clear hC62
              try simp at hc62
              refine swp00_skip ?_
              try simp only [thn, inBlk]
              refine hK60 _ ?_; clear hK60
              refine swp00_seq fun K63 hK63 => ?_
              refine swp00_block ?_
              have hr4 := atu_any FUs [] (l := tn) (k := i) (by omega)
              have hr5 := atu_any FU default (l := (tn[i]?.getD [])) (k := j) (by omega)
              have hr6 := atu_any IU 0 (l := ((tn[i]?.getD [])[j]?.getD default).co) (k := k) (by omega)
              refine swp00_regionO ty_ok ?_
              try simp (maxSteps := 1000000) [runs, gd, step1, need, evu, un, opnds, opv, ev, cst, cst1, cstL, getT, getH, putT, onL, nxt, argT, cellsOf, PV.one, thn, inBlk, jmp, fldP, ldP, ldC, live, Cells.len, Cells.get, Cells.w, sug, ldv, bin, eqF, eq1, ops2, sh2, binv, Tk.agg, stC, apC, rdS, apS, cpC, cpS, mvL, zp, argsP, idx, fillP, toInts, chunks, mkC, ixS, ixA, oidx, slP, sl0, slA, optL, List.append, mxF, bltn, frzA, frz, frzL, frz1, pur1, Cells.pur, PV.scal, scal1, runD, rdO, PV.ids, id1, zids, ety, Eff.on, cnd, minb, and1b, ifmax, ifmin, mxv, sugI, strv, w0, w1, w2, wm1, hr4, hr5, hr6, FUs, FU, IU, runsO, ood, stu, fno, noO, noO1, okL]
              repeat' (first | apply And.intro | intro _)
              any_goals (first | (refine hK63 _ ?_; clear hK63) | (first | assumption | omega | (simp only [IntKind.wrap_i64] at *; omega) | (simp_all; done) | (simp_all; omega)))
              refine swp00_region ty_ok ?_
              try simp (maxSteps := 1000000) [runs, gd, step1, need, evu, un, opnds, opv, ev, cst, cst1, cstL, getT, getH, putT, onL, nxt, argT, cellsOf, PV.one, thn, inBlk, jmp, fldP, ldP, ldC, live, Cells.len, Cells.get, Cells.w, sug, ldv, bin, eqF, eq1, ops2, sh2, binv, Tk.agg, stC, apC, rdS, apS, cpC, cpS, mvL, zp, argsP, idx, fillP, toInts, chunks, mkC, ixS, ixA, oidx, slP, sl0, slA, optL, List.append, mxF, bltn, frzA, frz, frzL, frz1, pur1, Cells.pur, PV.scal, scal1, runD, rdO, PV.ids, id1, zids, ety, Eff.on, cnd, minb, and1b, ifmax, ifmin, mxv, sugI, strv, w0, w1, w2, wm1]
              repeat' apply And.intro
              any_goals (try omega)
              refine hL59 _ ⟨[(2, .ptr 0 0 0 1), (5, .ptr 2 0 0 1), (6, .bool true), (7, .ptr 99 0 0 1), (11, .int .i64 (i : Nat)), (12, .int .i64 (j : Nat)), (13, .int .i64 ((k + 1) : Nat))], [(0, some ⟨.rows 9 [[.int .i64 ga, .int .u8 s, .int .u8 sh, .int .i64 m, .ro (.ints .i64 g), .ro (.rows 1 (se.map fun w => [.ro (.rows 2 (w.map Sc.row))])), .ro (.rows 1 (st.map fun w => [.ro (.ints .i64 w)])), .ro (.rows 1 (tn.map fun w => [.ro (.rows 5 (w.map Fl.row))])), .ro (.ints .i64 ln)]], true, 29⟩), (2, some ⟨.rows 9 [[.int .i64 ga, .int .u8 s, .int .u8 sh, .int .i64 m, .ro (.ints .i64 g), .old 36 (.rows 1 (se.map SUs)), .old 22 (.rows 1 (st.map IUs)), .old 33 (.rows 1 (tn.map FUs)), .old 3 (.rows 1 (ln.map IU))]], true, 29⟩), (99, some ⟨.rows 9 [[.int .i64 ga, .int .u8 s, .int .u8 sh, .int .i64 m, .ro (.ints .i64 g), .sl 95 0 se.length se.length, .sl 96 0 st.length st.length, .sl 97 0 tn.length tn.length, .sl 98 0 ln.length ln.length]], true, 29⟩), (95, some ⟨.rows 1 (se.map fun w => [.ro (.rows 2 (w.map Sc.row))]), false, 36⟩), (96, some ⟨.rows 1 (st.map fun w => [.ro (.ints .i64 w)]), false, 22⟩), (97, some ⟨.rows 1 (tn.map fun w => [.ro (.rows 5 (w.map Fl.row))]), false, 33⟩), (98, some ⟨.ints .i64 ln, false, 3⟩)], 100⟩ _ ?_ ⟨(k + 1), by (first | omega | (simp only [IntKind.wrap_i64] at *; omega) | (simp_all; done) | (simp_all; omega)), rfl, rfl⟩ ⟨by simp [getT, PV.lo, lo1, hkw], by simp [getH, Blk.lo, Cells.lo, lo1], rfl, by omega⟩
              omega
            · clear hC62
              try simp at hc62
              refine swp00_exit ?_
              simp [thn, inBlk]
              refine hK56 _ ?_; clear hK56
              refine swp00_region ty_ok ?_
              try simp (maxSteps := 1000000) [runs, gd, step1, need, evu, un, opnds, opv, ev, cst, cst1, cstL, getT, getH, putT, onL, nxt, argT, cellsOf, PV.one, thn, inBlk, jmp, fldP, ldP, ldC, live, Cells.len, Cells.get, Cells.w, sug, ldv, bin, eqF, eq1, ops2, sh2, binv, Tk.agg, stC, apC, rdS, apS, cpC, cpS, mvL, zp, argsP, idx, fillP, toInts, chunks, mkC, ixS, ixA, oidx, slP, sl0, slA, optL, List.append, mxF, bltn, frzA, frz, frzL, frz1, pur1, Cells.pur, PV.scal, scal1, runD, rdO, PV.ids, id1, zids, ety, Eff.on, cnd, minb, and1b, ifmax, ifmin, mxv, sugI, strv, w0, w1, w2, wm1]
              repeat' apply And.intro
              any_goals (try omega)
              refine hL52 _ ⟨[(2, .ptr 0 0 0 1), (5, .ptr 2 0 0 1), (6, .bool true), (7, .ptr 99 0 0 1), (11, .int .i64 (i : Nat)), (12, .int .i64 ((j + 1) : Nat))], [(0, some ⟨.rows 9 [[.int .i64 ga, .int .u8 s, .int .u8 sh, .int .i64 m, .ro (.ints .i64 g), .ro (.rows 1 (se.map fun w => [.ro (.rows 2 (w.map Sc.row))])), .ro (.rows 1 (st.map fun w => [.ro (.ints .i64 w)])), .ro (.rows 1 (tn.map fun w => [.ro (.rows 5 (w.map Fl.row))])), .ro (.ints .i64 ln)]], true, 29⟩), (2, some ⟨.rows 9 [[.int .i64 ga, .int .u8 s, .int .u8 sh, .int .i64 m, .ro (.ints .i64 g), .old 36 (.rows 1 (se.map SUs)), .old 22 (.rows 1 (st.map IUs)), .old 33 (.rows 1 (tn.map FUs)), .old 3 (.rows 1 (ln.map IU))]], true, 29⟩), (99, some ⟨.rows 9 [[.int .i64 ga, .int .u8 s, .int .u8 sh, .int .i64 m, .ro (.ints .i64 g), .sl 95 0 se.length se.length, .sl 96 0 st.length st.length, .sl 97 0 tn.length tn.length, .sl 98 0 ln.length ln.length]], true, 29⟩), (95, some ⟨.rows 1 (se.map fun w => [.ro (.rows 2 (w.map Sc.row))]), false, 36⟩), (96, some ⟨.rows 1 (st.map fun w => [.ro (.ints .i64 w)]), false, 22⟩), (97, some ⟨.rows 1 (tn.map fun w => [.ro (.rows 5 (w.map Fl.row))]), false, 33⟩), (98, some ⟨.ints .i64 ln, false, 3⟩)], 100⟩ _ ?_ ⟨(j + 1), by (first | omega | (simp only [IntKind.wrap_i64] at *; omega) | (simp_all; done) | (simp_all; omega)), rfl, rfl⟩ ⟨by simp [getT, PV.lo, lo1, hjw], by simp [getH, Blk.lo, Cells.lo, lo1], rfl, by omega⟩
              omega
          · clear hC55
            try simp at hc55
            refine swp00_exit ?_
            simp [thn, inBlk]
            refine hK50 _ ?_; clear hK50
            refine swp00_region ty_ok ?_
            try simp (maxSteps := 1000000) [runs, gd, step1, need, evu, un, opnds, opv, ev, cst, cst1, cstL, getT, getH, putT, onL, nxt, argT, cellsOf, PV.one, thn, inBlk, jmp, fldP, ldP, ldC, live, Cells.len, Cells.get, Cells.w, sug, ldv, bin, eqF, eq1, ops2, sh2, binv, Tk.agg, stC, apC, rdS, apS, cpC, cpS, mvL, zp, argsP, idx, fillP, toInts, chunks, mkC, ixS, ixA, oidx, slP, sl0, slA, optL, List.append, mxF, bltn, frzA, frz, frzL, frz1, pur1, Cells.pur, PV.scal, scal1, runD, rdO, PV.ids, id1, zids, ety, Eff.on, cnd, minb, and1b, ifmax, ifmin, mxv, sugI, strv, w0, w1, w2, wm1]
            repeat' apply And.intro
            any_goals (try omega)
            refine hL46 _ ⟨[(2, .ptr 0 0 0 1), (5, .ptr 2 0 0 1), (6, .bool true), (7, .ptr 99 0 0 1), (11, .int .i64 ((i + 1) : Nat))], [(0, some ⟨.rows 9 [[.int .i64 ga, .int .u8 s, .int .u8 sh, .int .i64 m, .ro (.ints .i64 g), .ro (.rows 1 (se.map fun w => [.ro (.rows 2 (w.map Sc.row))])), .ro (.rows 1 (st.map fun w => [.ro (.ints .i64 w)])), .ro (.rows 1 (tn.map fun w => [.ro (.rows 5 (w.map Fl.row))])), .ro (.ints .i64 ln)]], true, 29⟩), (2, some ⟨.rows 9 [[.int .i64 ga, .int .u8 s, .int .u8 sh, .int .i64 m, .ro (.ints .i64 g), .old 36 (.rows 1 (se.map SUs)), .old 22 (.rows 1 (st.map IUs)), .old 33 (.rows 1 (tn.map FUs)), .old 3 (.rows 1 (ln.map IU))]], true, 29⟩), (99, some ⟨.rows 9 [[.int .i64 ga, .int .u8 s, .int .u8 sh, .int .i64 m, .ro (.ints .i64 g), .sl 95 0 se.length se.length, .sl 96 0 st.length st.length, .sl 97 0 tn.length tn.length, .sl 98 0 ln.length ln.length]], true, 29⟩), (95, some ⟨.rows 1 (se.map fun w => [.ro (.rows 2 (w.map Sc.row))]), false, 36⟩), (96, some ⟨.rows 1 (st.map fun w => [.ro (.ints .i64 w)]), false, 22⟩), (97, some ⟨.rows 1 (tn.map fun w => [.ro (.rows 5 (w.map Fl.row))]), false, 33⟩), (98, some ⟨.ints .i64 ln, false, 3⟩)], 100⟩ _ ?_ ⟨(i + 1), by (first | omega | (simp only [IntKind.wrap_i64] at *; omega) | (simp_all; done) | (simp_all; omega)), rfl, rfl⟩ ⟨by simp [getT, PV.lo, lo1, hiw], by simp [getH, Blk.lo, Cells.lo, lo1], rfl, by omega⟩
            omega
        · clear hC49
          try simp at hc49
          refine swp00_exit ?_
          simp [thn, inBlk]
          refine hK44 _ ?_; clear hK44
          refine swp00_seq fun K64 hK64 => ?_
          refine swp00_seq fun K65 hK65 => ?_
          refine swp00_region ty_ok ?_
          try simp (maxSteps := 1000000) [runs, gd, step1, need, evu, un, opnds, opv, ev, cst, cst1, cstL, getT, getH, putT, onL, nxt, argT, cellsOf, PV.one, thn, inBlk, jmp, fldP, ldP, ldC, live, Cells.len, Cells.get, Cells.w, sug, ldv, bin, eqF, eq1, ops2, sh2, binv, Tk.agg, stC, apC, rdS, apS, cpC, cpS, mvL, zp, argsP, idx, fillP, toInts, chunks, mkC, ixS, ixA, oidx, slP, sl0, slA, optL, List.append, mxF, bltn, frzA, frz, frzL, frz1, pur1, Cells.pur, PV.scal, scal1, runD, rdO, PV.ids, id1, zids, ety, Eff.on, cnd, minb, and1b, ifmax, ifmin, mxv, sugI, strv, w0, w1, w2, wm1]
          repeat' (first | apply And.intro | intro _)
          any_goals (first | (refine hK65 _ ?_; clear hK65) | (first | assumption | omega | (simp only [IntKind.wrap_i64] at *; omega) | (simp_all; done) | (simp_all; omega)))
          refine swp00_block ?_
          refine swp00_loop 100 (fun m_ s_ => ∃ (i : Nat), (i ≤ se.length) ∧ s_ = ⟨[(2, .ptr 0 0 0 1), (5, .ptr 2 0 0 1), (6, .bool true), (7, .ptr 99 0 0 1), (14, .int .i64 (i : Nat))], [(0, some ⟨.rows 9 [[.int .i64 ga, .int .u8 s, .int .u8 sh, .int .i64 m, .ro (.ints .i64 g), .ro (.rows 1 (se.map fun w => [.ro (.rows 2 (w.map Sc.row))])), .ro (.rows 1 (st.map fun w => [.ro (.ints .i64 w)])), .ro (.rows 1 (tn.map fun w => [.ro (.rows 5 (w.map Fl.row))])), .ro (.ints .i64 ln)]], true, 29⟩), (2, some ⟨.rows 9 [[.int .i64 ga, .int .u8 s, .int .u8 sh, .int .i64 m, .ro (.ints .i64 g), .old 36 (.rows 1 (se.map SUs)), .old 22 (.rows 1 (st.map IUs)), .old 33 (.rows 1 (tn.map FUs)), .old 3 (.rows 1 (ln.map IU))]], true, 29⟩), (99, some ⟨.rows 9 [[.int .i64 ga, .int .u8 s, .int .u8 sh, .int .i64 m, .ro (.ints .i64 g), .sl 95 0 se.length se.length, .sl 96 0 st.length st.length, .sl 97 0 tn.length tn.length, .sl 98 0 ln.length ln.length]], true, 29⟩), (95, some ⟨.rows 1 (se.map fun w => [.ro (.rows 2 (w.map Sc.row))]), false, 36⟩), (96, some ⟨.rows 1 (st.map fun w => [.ro (.ints .i64 w)]), false, 22⟩), (97, some ⟨.rows 1 (tn.map fun w => [.ro (.rows 5 (w.map Fl.row))]), false, 33⟩), (98, some ⟨.ints .i64 ln, false, 3⟩)], 100⟩ ∧ m_ = se.length - i) _ ⟨[(2, .ptr 0 0 0 1), (5, .ptr 2 0 0 1), (6, .bool true), (7, .ptr 99 0 0 1), (14, .int .i64 (0 : Nat))], [(0, some ⟨.rows 9 [[.int .i64 ga, .int .u8 s, .int .u8 sh, .int .i64 m, .ro (.ints .i64 g), .ro (.rows 1 (se.map fun w => [.ro (.rows 2 (w.map Sc.row))])), .ro (.rows 1 (st.map fun w => [.ro (.ints .i64 w)])), .ro (.rows 1 (tn.map fun w => [.ro (.rows 5 (w.map Fl.row))])), .ro (.ints .i64 ln)]], true, 29⟩), (2, some ⟨.rows 9 [[.int .i64 ga, .int .u8 s, .int .u8 sh, .int .i64 m, .ro (.ints .i64 g), .old 36 (.rows 1 (se.map SUs)), .old 22 (.rows 1 (st.map IUs)), .old 33 (.rows 1 (tn.map FUs)), .old 3 (.rows 1 (ln.map IU))]], true, 29⟩), (99, some ⟨.rows 9 [[.int .i64 ga, .int .u8 s, .int .u8 sh, .int .i64 m, .ro (.ints .i64 g), .sl 95 0 se.length se.length, .sl 96 0 st.length st.length, .sl 97 0 tn.length tn.length, .sl 98 0 ln.length ln.length]], true, 29⟩), (95, some ⟨.rows 1 (se.map fun w => [.ro (.rows 2 (w.map Sc.row))]), false, 36⟩), (96, some ⟨.rows 1 (st.map fun w => [.ro (.ints .i64 w)]), false, 22⟩), (97, some ⟨.rows 1 (tn.map fun w => [.ro (.rows 5 (w.map Fl.row))]), false, 33⟩), (98, some ⟨.ints .i64 ln, false, 3⟩)], 100⟩ ⟨by simp [getT, PV.lo, lo1], by simp [getH, Blk.lo, Cells.lo, lo1], rfl, by omega⟩ ⟨(0), by (first | omega | (simp only [IntKind.wrap_i64] at *; omega) | (simp_all; done) | (simp_all; omega)), rfl, rfl⟩ ?_
          rintro m_ s_ ⟨i, hL66_0, rfl, rfl⟩ KL66 hL66
          have hiw : IntKind.i64.wrap ((i : Int) + 1) = (((i + 1 : Nat)) : Int) := wnext (by omega)
          refine swp00_seq fun K67 hK67 => ?_
          refine swp00_seq fun K68 hK68 => ?_
          refine swp00_regionO ty_ok ?_
          try simp (maxSteps := 1000000) [runs, gd, step1, need, evu, un, opnds, opv, ev, cst, cst1, cstL, getT, getH, putT, onL, nxt, argT, cellsOf, PV.one, thn, inBlk, jmp, fldP, ldP, ldC, live, Cells.len, Cells.get, Cells.w, sug, ldv, bin, eqF, eq1, ops2, sh2, binv, Tk.agg, stC, apC, rdS, apS, cpC, cpS, mvL, zp, argsP, idx, fillP, toInts, chunks, mkC, ixS, ixA, oidx, slP, sl0, slA, optL, List.append, mxF, bltn, frzA, frz, frzL, frz1, pur1, Cells.pur, PV.scal, scal1, runD, rdO, PV.ids, id1, zids, ety, Eff.on, cnd, minb, and1b, ifmax, ifmin, mxv, sugI, strv, w0, w1, w2, wm1, runsO, ood, stu, fno, noO, noO1, okL]
          repeat' (first | apply And.intro | intro _)
          any_goals (first | (refine hK68 _ ?_; clear hK68) | (first | assumption | omega | (simp only [IntKind.wrap_i64] at *; omega) | (simp_all; done) | (simp_all; omega)))
          refine swp00_if fun C69 hC69 => ?_
          try simp (maxSteps := 1000000) [runs, gd, step1, need, evu, un, opnds, opv, ev, cst, cst1, cstL, getT, getH, putT, onL, nxt, argT, cellsOf, PV.one, thn, inBlk, jmp, fldP, ldP, ldC, live, Cells.len, Cells.get, Cells.w, sug, ldv, bin, eqF, eq1, ops2, sh2, binv, Tk.agg, stC, apC, rdS, apS, cpC, cpS, mvL, zp, argsP, idx, fillP, toInts, chunks, mkC, ixS, ixA, oidx, slP, sl0, slA, optL, List.append, mxF, bltn, frzA, frz, frzL, frz1, pur1, Cells.pur, PV.scal, scal1, runD, rdO, PV.ids, id1, zids, ety, Eff.on, cnd, minb, and1b, ifmax, ifmin, mxv, sugI, strv, w0, w1, w2, wm1]
          refine hC69 _ (fun hc69 => ?_) (fun hc69 => ?_)
          · clear hC69
            try simp at hc69
            refine swp00_skip ?_
            try simp only [thn, inBlk]
            refine hK67 _ ?_; clear hK67
            refine swp00_seq fun K70 hK70 => ?_
            refine swp00_block ?_
            refine swp00_seq fun K71 hK71 => ?_
            have hr7 := atu_any SUs [] (l := se) (k := i) (by omega)
            have hw4 : (se[i]?.getD []).length ≤ 1000 := hLk.2.1 _ (mem_at (w := se) (j := i) (by omega))
            refine swp00_region ty_ok ?_
            try simp (maxSteps := 1000000) [runs, gd, step1, need, evu, un, opnds, opv, ev, cst, cst1, cstL, getT, getH, putT, onL, nxt, argT, cellsOf, PV.one, thn, inBlk, jmp, fldP, ldP, ldC, live, Cells.len, Cells.get, Cells.w, sug, ldv, bin, eqF, eq1, ops2, sh2, binv, Tk.agg, stC, apC, rdS, apS, cpC, cpS, mvL, zp, argsP, idx, fillP, toInts, chunks, mkC, ixS, ixA, oidx, slP, sl0, slA, optL, List.append, mxF, bltn, frzA, frz, frzL, frz1, pur1, Cells.pur, PV.scal, scal1, runD, rdO, PV.ids, id1, zids, ety, Eff.on, cnd, minb, and1b, ifmax, ifmin, mxv, sugI, strv, w0, w1, w2, wm1]
            repeat' (first | apply And.intro | intro _)
            any_goals (first | (refine hK71 _ ?_; clear hK71) | (first | assumption | omega | (simp only [IntKind.wrap_i64] at *; omega) | (simp_all; done) | (simp_all; omega)))
            refine swp00_block ?_
            refine swp00_loop 100 (fun m_ s_ => ∃ (j : Nat), (j ≤ (se[i]?.getD []).length) ∧ s_ = ⟨[(2, .ptr 0 0 0 1), (5, .ptr 2 0 0 1), (6, .bool true), (7, .ptr 99 0 0 1), (14, .int .i64 (i : Nat)), (15, .int .i64 (j : Nat))], [(0, some ⟨.rows 9 [[.int .i64 ga, .int .u8 s, .int .u8 sh, .int .i64 m, .ro (.ints .i64 g), .ro (.rows 1 (se.map fun w => [.ro (.rows 2 (w.map Sc.row))])), .ro (.rows 1 (st.map fun w => [.ro (.ints .i64 w)])), .ro (.rows 1 (tn.map fun w => [.ro (.rows 5 (w.map Fl.row))])), .ro (.ints .i64 ln)]], true, 29⟩), (2, some ⟨.rows 9 [[.int .i64 ga, .int .u8 s, .int .u8 sh, .int .i64 m, .ro (.ints .i64 g), .old 36 (.rows 1 (se.map SUs)), .old 22 (.rows 1 (st.map IUs)), .old 33 (.rows 1 (tn.map FUs)), .old 3 (.rows 1 (ln.map IU))]], true, 29⟩), (99, some ⟨.rows 9 [[.int .i64 ga, .int .u8 s, .int .u8 sh, .int .i64 m, .ro (.ints .i64 g), .sl 95 0 se.length se.length, .sl 96 0 st.length st.length, .sl 97 0 tn.length tn.length, .sl 98 0 ln.length ln.length]], true, 29⟩), (95, some ⟨.rows 1 (se.map fun w => [.ro (.rows 2 (w.map Sc.row))]), false, 36⟩), (96, some ⟨.rows 1 (st.map fun w => [.ro (.ints .i64 w)]), false, 22⟩), (97, some ⟨.rows 1 (tn.map fun w => [.ro (.rows 5 (w.map Fl.row))]), false, 33⟩), (98, some ⟨.ints .i64 ln, false, 3⟩)], 100⟩ ∧ m_ = (se[i]?.getD []).length - j) _ ⟨[(2, .ptr 0 0 0 1), (5, .ptr 2 0 0 1), (6, .bool true), (7, .ptr 99 0 0 1), (14, .int .i64 (i : Nat)), (15, .int .i64 (0 : Nat))], [(0, some ⟨.rows 9 [[.int .i64 ga, .int .u8 s, .int .u8 sh, .int .i64 m, .ro (.ints .i64 g), .ro (.rows 1 (se.map fun w => [.ro (.rows 2 (w.map Sc.row))])), .ro (.rows 1 (st.map fun w => [.ro (.ints .i64 w)])), .ro (.rows 1 (tn.map fun w => [.ro (.rows 5 (w.map Fl.row))])), .ro (.ints .i64 ln)]], true, 29⟩), (2, some ⟨.rows 9 [[.int .i64 ga, .int .u8 s, .int .u8 sh, .int .i64 m, .ro (.ints .i64 g), .old 36 (.rows 1 (se.map SUs)), .old 22 (.rows 1 (st.map IUs)), .old 33 (.rows 1 (tn.map FUs)), .old 3 (.rows 1 (ln.map IU))]], true, 29⟩), (99, some ⟨.rows 9 [[.int .i64 ga, .int .u8 s, .int .u8 sh, .int .i64 m, .ro (.ints .i64 g), .sl 95 0 se.length se.length, .sl 96 0 st.length st.length, .sl 97 0 tn.length tn.length, .sl 98 0 ln.length ln.length]], true, 29⟩), (95, some ⟨.rows 1 (se.map fun w => [.ro (.rows 2 (w.map Sc.row))]), false, 36⟩), (96, some ⟨.rows 1 (st.map fun w => [.ro (.ints .i64 w)]), false, 22⟩), (97, some ⟨.rows 1 (tn.map fun w => [.ro (.rows 5 (w.map Fl.row))]), false, 33⟩), (98, some ⟨.ints .i64 ln, false, 3⟩)], 100⟩ ⟨by simp [getT, PV.lo, lo1], by simp [getH, Blk.lo, Cells.lo, lo1], rfl, by omega⟩ ⟨(0), by (first | omega | (simp only [IntKind.wrap_i64] at *; omega) | (simp_all; done) | (simp_all; omega)), rfl, rfl⟩ ?_
            rintro m_ s_ ⟨j, hL72_0, rfl, rfl⟩ KL72 hL72
            have hjw : IntKind.i64.wrap ((j : Int) + 1) = (((j + 1 : Nat)) : Int) := wnext (by omega)
            refine swp00_seq fun K73 hK73 => ?_
            refine swp00_seq fun K74 hK74 => ?_
            have hr7 := atu_any SUs [] (l := se) (k := i) (by omega)
            refine swp00_regionO ty_ok ?_
            try simp (maxSteps := 1000000) [runs, gd, step1, need, evu, un, opnds, opv, ev, cst, cst1, cstL, getT, getH, putT, onL, nxt, argT, cellsOf, PV.one, thn, inBlk, jmp, fldP, ldP, ldC, live, Cells.len, Cells.get, Cells.w, sug, ldv, bin, eqF, eq1, ops2, sh2, binv, Tk.agg, stC, apC, rdS, apS, cpC, cpS, mvL, zp, argsP, idx, fillP, toInts, chunks, mkC, ixS, ixA, oidx, slP, sl0, slA, optL, List.append, mxF, bltn, frzA, frz, frzL, frz1, pur1, Cells.pur, PV.scal, scal1, runD, rdO, PV.ids, id1, zids, ety, Eff.on, cnd, minb, and1b, ifmax, ifmin, mxv, sugI, strv, w0, w1, w2, wm1, hr7, SUs, runsO, ood, stu, fno, noO, noO1, okL]
            repeat' (first | apply And.intro | intro _)
            any_goals (first | (refine hK74 _ ?_; clear hK74) | (first | assumption | omega | (simp only [IntKind.wrap_i64] at *; omega) | (simp_all; done) | (simp_all; omega)))
            refine swp00_if fun C75 hC75 => ?_
            try simp (maxSteps := 1000000) [runs, gd, step1, need, evu, un, opnds, opv, ev, cst, cst1, cstL, getT, getH, putT, onL, nxt, argT, cellsOf, PV.one, thn, inBlk, jmp, fldP, ldP, ldC, live, Cells.len, Cells.get, Cells.w, sug, ldv, bin, eqF, eq1, ops2, sh2, binv, Tk.agg, stC, apC, rdS, apS, cpC, cpS, mvL, zp, argsP, idx, fillP, toInts, chunks, mkC, ixS, ixA, oidx, slP, sl0, slA, optL, List.append, mxF, bltn, frzA, frz, frzL, frz1, pur1, Cells.pur, PV.scal, scal1, runD, rdO, PV.ids, id1, zids, ety, Eff.on, cnd, minb, and1b, ifmax, ifmin, mxv, sugI, strv, w0, w1, w2, wm1, hr7, SUs]
            refine hC75 _ (fun hc75 => ?_) (fun hc75 => ?_)
            · clear hC75
              try simp at hc75
              refine swp00_skip ?_
              try simp only [thn, inBlk]
              refine hK73 _ ?_; clear hK73
              refine swp00_seq fun K76 hK76 => ?_
              refine swp00_block ?_
              have hr7 := atu_any SUs [] (l := se) (k := i) (by omega)
              have hr8 := atu_any SU default (l := (se[i]?.getD [])) (k := j) (by omega)
              refine swp00_regionO ty_ok ?_
              try simp (maxSteps := 1000000) [runs, gd, step1, need, evu, un, opnds, opv, ev, cst, cst1, cstL, getT, getH, putT, onL, nxt, argT, cellsOf, PV.one, thn, inBlk, jmp, fldP, ldP, ldC, live, Cells.len, Cells.get, Cells.w, sug, ldv, bin, eqF, eq1, ops2, sh2, binv, Tk.agg, stC, apC, rdS, apS, cpC, cpS, mvL, zp, argsP, idx, fillP, toInts, chunks, mkC, ixS, ixA, oidx, slP, sl0, slA, optL, List.append, mxF, bltn, frzA, frz, frzL, frz1, pur1, Cells.pur, PV.scal, scal1, runD, rdO, PV.ids, id1, zids, ety, Eff.on, cnd, minb, and1b, ifmax, ifmin, mxv, sugI, strv, w0, w1, w2, wm1, hr7, hr8, SUs, SU, runsO, ood, stu, fno, noO, noO1, okL]
              repeat' (first | apply And.intro | intro _)
              any_goals (first | (refine hK76 _ ?_; clear hK76) | (first | assumption | omega | (simp only [IntKind.wrap_i64] at *; omega) | (simp_all; done) | (simp_all; omega)))
              refine swp00_region ty_ok ?_
              try simp (maxSteps := 1000000) [runs, gd, step1, need, evu, un, opnds, opv, ev, cst, cst1, cstL, getT, getH, putT, onL, nxt, argT, cellsOf, PV.one, thn, inBlk, jmp, fldP, ldP, ldC, live, Cells.len, Cells.get, Cells.w, sug, ldv, bin, eqF, eq1, ops2, sh2, binv, Tk.agg, stC, apC, rdS, apS, cpC, cpS, mvL, zp, argsP, idx, fillP, toInts, chunks, mkC, ixS, ixA, oidx, slP, sl0, slA, optL, List.append, mxF, bltn, frzA, frz, frzL, frz1, pur1, Cells.pur, PV.scal, scal1, runD, rdO, PV.ids, id1, zids, ety, Eff.on, cnd, minb, and1b, ifmax, ifmin, mxv, sugI, strv, w0, w1, w2, wm1]
              repeat' apply And.intro
              any_goals (try omega)
              refine hL72 _ ⟨[(2, .ptr 0 0 0 1), (5, .ptr 2 0 0 1), (6, .bool true), (7, .ptr 99 0 0 1), (14, .int .i64 (i : Nat)), (15, .int .i64 ((j + 1) : Nat))], [(0, some ⟨.rows 9 [[.int .i64 ga, .int .u8 s, .int .u8 sh, .int .i64 m, .ro (.ints .i64 g), .ro (.rows 1 (se.map fun w => [.ro (.rows 2 (w.map Sc.row))])), .ro (.rows 1 (st.map fun w => [.ro (.ints .i64 w)])), .ro (.rows 1 (tn.map fun w => [.ro (.rows 5 (w.map Fl.row))])), .ro (.ints .i64 ln)]], true, 29⟩), (2, some ⟨.rows 9 [[.int .i64 ga, .int .u8 s, .int .u8 sh, .int .i64 m, .ro (.ints .i64 g), .old 36 (.rows 1 (se.map SUs)), .old 22 (.rows 1 (st.map IUs)), .old 33 (.rows 1 (tn.map FUs)), .old 3 (.rows 1 (ln.map IU))]], true, 29⟩), (99, some ⟨.rows 9 [[.int .i64 ga, .int .u8 s, .int .u8 sh, .int .i64 m, .ro (.ints .i64 g), .sl 95 0 se.length se.length, .sl 96 0 st.length st.length, .sl 97 0 tn.length tn.length, .sl 98 0 ln.length ln.length]], true, 29⟩), (95, some ⟨.rows 1 (se.map fun w => [.ro (.rows 2 (w.map Sc.row))]), false, 36⟩), (96, some ⟨.rows 1 (st.map fun w => [.ro (.ints .i64 w)]), false, 22⟩), (97, some ⟨.rows 1 (tn.map fun w => [.ro (.rows 5 (w.map Fl.row))]), false, 33⟩), (98, some ⟨.ints .i64 ln, false, 3⟩)], 100⟩ _ ?_ ⟨(j + 1), by (first | omega | (simp only [IntKind.wrap_i64] at *; omega) | (simp_all; done) | (simp_all; omega)), rfl, rfl⟩ ⟨by simp [getT, PV.lo, lo1, hjw], by simp [getH, Blk.lo, Cells.lo, lo1], rfl, by omega⟩
              omega
            · clear hC75
              try simp at hc75
              refine swp00_exit ?_
              simp [thn, inBlk]
              refine hK70 _ ?_; clear hK70
              refine swp00_region ty_ok ?_
              try simp (maxSteps := 1000000) [runs, gd, step1, need, evu, un, opnds, opv, ev, cst, cst1, cstL, getT, getH, putT, onL, nxt, argT, cellsOf, PV.one, thn, inBlk, jmp, fldP, ldP, ldC, live, Cells.len, Cells.get, Cells.w, sug, ldv, bin, eqF, eq1, ops2, sh2, binv, Tk.agg, stC, apC, rdS, apS, cpC, cpS, mvL, zp, argsP, idx, fillP, toInts, chunks, mkC, ixS, ixA, oidx, slP, sl0, slA, optL, List.append, mxF, bltn, frzA, frz, frzL, frz1, pur1, Cells.pur, PV.scal, scal1, runD, rdO, PV.ids, id1, zids, ety, Eff.on, cnd, minb, and1b, ifmax, ifmin, mxv, sugI, strv, w0, w1, w2, wm1]
              repeat' apply And.intro
              any_goals (try omega)
              refine hL66 _ ⟨[(2, .ptr 0 0 0 1), (5, .ptr 2 0 0 1), (6, .bool true), (7, .ptr 99 0 0 1), (14, .int .i64 ((i + 1) : Nat))], [(0, some ⟨.rows 9 [[.int .i64 ga, .int .u8 s, .int .u8 sh, .int .i64 m, .ro (.ints .i64 g), .ro (.rows 1 (se.map fun w => [.ro (.rows 2 (w.map Sc.row))])), .ro (.rows 1 (st.map fun w => [.ro (.ints .i64 w)])), .ro (.rows 1 (tn.map fun w => [.ro (.rows 5 (w.map Fl.row))])), .ro (.ints .i64 ln)]], true, 29⟩), (2, some ⟨.rows 9 [[.int .i64 ga, .int .u8 s, .int .u8 sh, .int .i64 m, .ro (.ints .i64 g), .old 36 (.rows 1 (se.map SUs)), .old 22 (.rows 1 (st.map IUs)), .old 33 (.rows 1 (tn.map FUs)), .old 3 (.rows 1 (ln.map IU))]], true, 29⟩), (99, some ⟨.rows 9 [[.int .i64 ga, .int .u8 s, .int .u8 sh, .int .i64 m, .ro (.ints .i64 g), .sl 95 0 se.length se.length, .sl 96 0 st.length st.length, .sl 97 0 tn.length tn.length, .sl 98 0 ln.length ln.length]], true, 29⟩), (95, some ⟨.rows 1 (se.map fun w => [.ro (.rows 2 (w.map Sc.row))]), false, 36⟩), (96, some ⟨.rows 1 (st.map fun w => [.ro (.ints .i64 w)]), false, 22⟩), (97, some ⟨.rows 1 (tn.map fun w => [.ro (.rows 5 (w.map Fl.row))]), false, 33⟩), (98, some ⟨.ints .i64 ln, false, 3⟩)], 100⟩ _ ?_ ⟨(i + 1), by (first | omega | (simp only [IntKind.wrap_i64] at *; omega) | (simp_all; done) | (simp_all; omega)), rfl, rfl⟩ ⟨by simp [getT, PV.lo, lo1, hiw], by simp [getH, Blk.lo, Cells.lo, lo1], rfl, by omega⟩
              omega
          · clear hC69
            try simp at hc69
            refine swp00_exit ?_
            simp [thn, inBlk]
            refine hK64 _ ?_; clear hK64
            refine swp00_seq fun K77 hK77 => ?_
            refine swp00_region ty_ok ?_
            refine runs_cut 4 fun R78 hR78 => ?_
            try simp (maxSteps := 1000000) [runs, gd, step1, need, evu, un, opnds, opv, ev, cst, cst1, cstL, getT, getH, putT, onL, nxt, argT, cellsOf, PV.one, thn, inBlk, jmp, fldP, ldP, ldC, live, Cells.len, Cells.get, Cells.w, sug, ldv, bin, eqF, eq1, ops2, sh2, binv, Tk.agg, stC, apC, rdS, apS, cpC, cpS, mvL, zp, argsP, idx, fillP, toInts, chunks, mkC, ixS, ixA, oidx, slP, sl0, slA, optL, List.append, mxF, bltn, frzA, frz, frzL, frz1, pur1, Cells.pur, PV.scal, scal1, runD, rdO, PV.ids, id1, zids, ety, Eff.on, cnd, minb, and1b, ifmax, ifmin, mxv, sugI, strv, w0, w1, w2, wm1, List.take_succ_cons, List.take_zero, List.drop_succ_cons, List.drop_zero]
            repeat' (first | apply And.intro | intro _)
            any_goals (first | (refine hR78 _ ?_; clear hR78) | (first | assumption | omega | (simp only [IntKind.wrap_i64] at *; omega) | (simp_all; done) | (simp_all; omega)))
            refine runs_cut 1 fun R79 hR79 => ?_
            try simp (maxSteps := 1000000) [runs, gd, step1, need, evu, un, opnds, opv, ev, cst, cst1, cstL, getT, getH, putT, onL, nxt, argT, cellsOf, PV.one, thn, inBlk, jmp, fldP, ldP, ldC, live, Cells.len, Cells.get, Cells.w, sug, ldv, bin, eqF, eq1, ops2, sh2, binv, Tk.agg, stC, apC, rdS, apS, cpC, cpS, mvL, zp, argsP, idx, fillP, toInts, chunks, mkC, ixS, ixA, oidx, slP, sl0, slA, optL, List.append, mxF, bltn, frzA, frz, frzL, frz1, pur1, Cells.pur, PV.scal, scal1, runD, rdO, PV.ids, id1, zids, ety, Eff.on, cnd, minb, and1b, ifmax, ifmin, mxv, sugI, strv, w0, w1, w2, wm1, List.take_succ_cons, List.take_zero, List.drop_succ_cons, List.drop_zero]
            first | refine .inl ⟨_, fun hb => .inl ⟨rsame_ok ga s sh m g se st tn ln ga s sh m g se st tn ln hLk hlx, rfl⟩, ?_⟩ | refine .inl ⟨_, .inl ⟨rsame_ok ga s sh m g se st tn ln ga s sh m g se st tn ln hLk hlx, rfl⟩, ?_⟩ | refine .inl ⟨_, fun hb => .inl (rsame_ok ga s sh m g se st tn ln ga s sh m g se st tn ln hLk hlx), ?_⟩ | refine .inl ⟨_, .inl (rsame_ok ga s sh m g se st tn ln ga s sh m g se st tn ln hLk hlx), ?_⟩ | refine .inl ⟨_, by (intros; exact Or.inl (rsame_ok ga s sh m g se st tn ln ga s sh m g se st tn ln hLk hlx)), ?_⟩ | refine .inl ⟨_, by (intros; exact Or.inl ⟨rsame_ok ga s sh m g se st tn ln ga s sh m g se st tn ln hLk hlx, rfl⟩), ?_⟩ | refine .inl ⟨_, fun hb => .inl ⟨_, rsame_ok ga s sh m g se st tn ln ga s sh m g se st tn ln hLk hlx, by (try simp [runs, gd, step1, need, evu, un, opnds, opv, ev, cst, cst1, cstL, getT, getH, putT, onL, nxt, argT, cellsOf, PV.one, thn, inBlk, jmp, fldP, ldP, ldC, live, Cells.len, Cells.get, Cells.w, sug, ldv, bin, eqF, eq1, ops2, sh2, binv, Tk.agg, stC, apC, rdS, apS, cpC, cpS, mvL, zp, argsP, idx, fillP, toInts, chunks, mkC, ixS, ixA, oidx, slP, sl0, slA, optL, List.append, mxF, bltn, frzA, frz, frzL, frz1, pur1, Cells.pur, PV.scal, scal1, runD, rdO, PV.ids, id1, zids, ety, Eff.on, cnd, minb, and1b, ifmax, ifmin, mxv, sugI, strv, w0, w1, w2, wm1]); exact ⟨rfl, rfl⟩⟩, ?_⟩ | refine ⟨_, fun hb => .inl ⟨rsame_ok ga s sh m g se st tn ln ga s sh m g se st tn ln hLk hlx, rfl⟩, ?_⟩ | refine ⟨_, .inl ⟨rsame_ok ga s sh m g se st tn ln ga s sh m g se st tn ln hLk hlx, rfl⟩, ?_⟩ | refine ⟨_, fun hb => .inl (rsame_ok ga s sh m g se st tn ln ga s sh m g se st tn ln hLk hlx), ?_⟩ | refine ⟨_, .inl (rsame_ok ga s sh m g se st tn ln ga s sh m g se st tn ln hLk hlx), ?_⟩ | refine ⟨_, by (intros; exact Or.inl (rsame_ok ga s sh m g se st tn ln ga s sh m g se st tn ln hLk hlx)), ?_⟩ | refine ⟨_, by (intros; exact Or.inl ⟨rsame_ok ga s sh m g se st tn ln ga s sh m g se st tn ln hLk hlx, rfl⟩), ?_⟩ | refine ⟨_, fun hb => .inl ⟨_, rsame_ok ga s sh m g se st tn ln ga s sh m g se st tn ln hLk hlx, by (try simp [runs, gd, step1, need, evu, un, opnds, opv, ev, cst, cst1, cstL, getT, getH, putT, onL, nxt, argT, cellsOf, PV.one, thn, inBlk, jmp, fldP, ldP, ldC, live, Cells.len, Cells.get, Cells.w, sug, ldv, bin, eqF, eq1, ops2, sh2, binv, Tk.agg, stC, apC, rdS, apS, cpC, cpS, mvL, zp, argsP, idx, fillP, toInts, chunks, mkC, ixS, ixA, oidx, slP, sl0, slA, optL, List.append, mxF, bltn, frzA, frz, frzL, frz1, pur1, Cells.pur, PV.scal, scal1, runD, rdO, PV.ids, id1, zids, ety, Eff.on, cnd, minb, and1b, ifmax, ifmin, mxv, sugI, strv, w0, w1, w2, wm1]); exact ⟨rfl, rfl⟩⟩, ?_⟩
            repeat' (first | apply And.intro | intro _)
            any_goals (first | (refine hR79 _ ?_; clear hR79) | (first | assumption | omega | (simp only [IntKind.wrap_i64] at *; omega) | (simp_all; done) | (simp_all; omega)))
            try simp (maxSteps := 1000000) [runs, gd, step1, need, evu, un, opnds, opv, ev, cst, cst1, cstL, getT, getH, putT, onL, nxt, argT, cellsOf, PV.one, thn, inBlk, jmp, fldP, ldP, ldC, live, Cells.len, Cells.get, Cells.w, sug, ldv, bin, eqF, eq1, ops2, sh2, binv, Tk.agg, stC, apC, rdS, apS, cpC, cpS, mvL, zp, argsP, idx, fillP, toInts, chunks, mkC, ixS, ixA, oidx, slP, sl0, slA, optL, List.append, mxF, bltn, frzA, frz, frzL, frz1, pur1, Cells.pur, PV.scal, scal1, runD, rdO, PV.ids, id1, zids, ety, Eff.on, cnd, minb, and1b, ifmax, ifmin, mxv, sugI, strv, w0, w1, w2, wm1, List.take_succ_cons, List.take_zero, List.drop_succ_cons, List.drop_zero]
            repeat' (first | apply And.intro | intro _)
            any_goals (first | (refine hK77 _ ?_; clear hK77) | (first | assumption | omega | (simp only [IntKind.wrap_i64] at *; omega) | (simp_all; done) | (simp_all; omega)))
            refine swp00_ret ?_
            simp [runs, gd, step1, need, evu, un, opnds, opv, ev, cst, cst1, cstL, getT, getH, putT, onL, nxt, argT, cellsOf, PV.one, thn, inBlk, jmp, fldP, ldP, ldC, live, Cells.len, Cells.get, Cells.w, sug, ldv, bin, eqF, eq1, ops2, sh2, binv, Tk.agg, stC, apC, rdS, apS, cpC, cpS, mvL, zp, argsP, idx, fillP, toInts, chunks, mkC, ixS, ixA, oidx, slP, sl0, slA, optL, List.append, mxF, bltn, frzA, frz, frzL, frz1, pur1, Cells.pur, PV.scal, scal1, runD, rdO, PV.ids, id1, zids, ety, Eff.on, cnd, minb, and1b, ifmax, ifmin, mxv, sugI, strv, w0, w1, w2, wm1, fnPost, Try.results3, resP, tupOf]

end Go.Proofs.Ytmkgfgdipkagbaa

