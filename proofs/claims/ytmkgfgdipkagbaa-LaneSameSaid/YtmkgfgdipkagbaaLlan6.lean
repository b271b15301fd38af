import Derived.Test.YtmkgfgdipkagbaaWf
import Derived.Test.YtmkgfgdipkagbaaTyl
import Derived.Test.YtmkgfgdipkagbaaLband
import Derived.Test.YtmkgfgdipkagbaaLinfo
import Derived.Test.YtmkgfgdipkagbaaLinfo2
import Derived.Test.YtmkgfgdipkagbaaLbits
import Derived.Test.YtmkgfgdipkagbaaLtns
import Derived.Test.YtmkgfgdipkagbaaLtnp
import Derived.Test.YtmkgfgdipkagbaaLtnl
import Derived.Test.YtmkgfgdipkagbaaLlan
import Derived.Test.YtmkgfgdipkagbaaLlan2
import Derived.Test.YtmkgfgdipkagbaaLlan3
import Derived.Test.YtmkgfgdipkagbaaLlan4
namespace Go.Proofs.Ytmkgfgdipkagbaa
set_option linter.unusedVariables false
set_option linter.unusedSimpArgs false
set_option maxRecDepth 10000
open Go Go.Pv


open Go.RowKit
theorem tk_s {α β : Type} (f : α → β) (d : α) {l : List α} {k : Nat} (h : k < l.length) : (l.map f).take (k + 1) = (l.map f).take k ++ [f (l[k]?.getD d)] := by
 rw [List.take_succ_eq_append_getElem (by rw [List.length_map]; exact h), List.getElem_map, List.getElem?_eq_getElem h]
 rfl
theorem tk_e {α β : Type} (f : α → β) (l : List α) : (l.map f).take l.length = l.map f := List.take_of_length_le (by rw [List.length_map]; exact Nat.le_refl _)

attribute [local simp] runs gd step1 need evu un opnds opv ev cst cst1 cstL getT getH putT onL nxt argT cellsOf PV.one thn inBlk jmp fldP ldP ldC live Cells.len Cells.get Cells.w sug ldv bin eqF eq1 ops2 sh2 binv Tk.agg stC apC rdS apS cpC cpS mvL zp argsP idx fillP toInts chunks mkC ixS ixA oidx slP sl0 slA optL List.append mxF bltn frzA frz frzL frz1 pur1 Cells.pur PV.scal scal1 runD rdO PV.ids id1 zids ety Eff.on cnd minb and1b ifmax ifmin mxv sugI strv w0 w1 w2 wm1
theorem twin10_P (s sh m : Int) (g : List Int) (hx : g.length ≤ 17592186043000) : PCall Try.prog 53 [.agg [.int .u8 s, .int .u8 sh, .int .i64 m, .ro (.ints .i64 g)]] (.agg [.int .u8 s, .int .u8 sh, .int .i64 m, .ro (.ints .i64 g)]) := by
 refine pcall_body ty_ok Try.func53 rfl (by rfl) (by simp) ?_
 rw [Try.ntmps53]
 refine swp_seq fun K1 hK1 => ?_
 refine swp_region ty_ok ?_
 try simp (maxSteps := 1000000)
 repeat' (first | apply And.intro | intro _)
 any_goals (first | (refine hK1 _ ?_; clear hK1) | omega | (simp_all <;> omega))
 refine swp_seq fun K2 hK2 => ?_
 refine swp_region ty_ok ?_
 try simp (maxSteps := 1000000)
 repeat' (first | apply And.intro | intro _)
 any_goals (first | (refine hK2 _ ?_; clear hK2) | omega | (simp_all <;> omega))
 refine swp_seq fun K3 hK3 => ?_
 refine swp_region ty_ok ?_
 try simp (maxSteps := 1000000)
 repeat' (first | apply And.intro | intro _)
 any_goals (first | (refine hK3 _ ?_; clear hK3) | omega | (simp_all <;> omega))
 refine swp_seq fun K4 hK4 => ?_
 refine swp_region ty_ok ?_
 try simp (maxSteps := 1000000)
 repeat' (first | apply And.intro | intro _)
 any_goals (first | (refine hK4 _ ?_; clear hK4) | omega | (simp_all <;> omega))
 refine swp_ret ?_
 simp [fnPost, Try.results53, resP, tupOf]

set_option maxHeartbeats 8000000 in
theorem twin_H2 (ga s sh m : Int) (g : List Int) (se : List (List Sc)) (st : List (List Int)) (tn : List (List Fl)) (ln : List Int) (hl : LenOk g se st tn) (hlx : ln.length ≤ 1000000) : HCall Try.prog 18 [.agg [.int .i64 ga, .int .u8 s, .int .u8 sh, .int .i64 m, .ro (.ints .i64 g), .ro (.rows 1 (se.map fun w => [.ro (.rows 2 (w.map Sc.row))])), .ro (.rows 1 (st.map fun w => [.ro (.ints .i64 w)])), .ro (.rows 1 (tn.map fun w => [.ro (.rows 5 (w.map Fl.row))])), .ro (.ints .i64 ln)]] [] 95 (.agg [.int .i64 ga, .int .u8 s, .int .u8 sh, .int .i64 m, .ro (.ints .i64 g), .sl 162 0 se.length se.length, .sl 163 0 st.length st.length, .sl 164 0 tn.length tn.length, .sl 161 0 ln.length ln.length]) [(162, some ⟨.rows 1 (se.map fun w => [PV.ro (.rows 2 (w.map Sc.row))]), false, 36⟩), (163, some ⟨.rows 1 (st.map fun w => [PV.ro (.ints .i64 w)]), false, 22⟩), (164, some ⟨.rows 1 (tn.map fun w => [PV.ro (.rows 5 (w.map Fl.row))]), false, 33⟩), (161, some ⟨.ints .i64 ln, false, 3⟩)] := by
 have hlk := hl
 obtain ⟨⟨hl1, hl2, hl3, hl4⟩, hl5, hl6, hl7⟩ := hl
 refine hcall_body ty_ok Try.func18 rfl (by rfl) (by simp) ?_
 rw [Try.ntmps18]
 refine swp_seq fun K1 hK1 => ?_
 refine swp_region ty_ok ?_
 try simp (maxSteps := 1000000)
 repeat' (first | apply And.intro | intro _)
 any_goals (first | (refine hK1 _ ?_; clear hK1) | omega | (simp_all <;> omega))
 refine swp_seq fun K2 hK2 => ?_
 refine swp_draw ty_ok mixed (ms := [0, 1, 0, 4, 12, 31, 0, 127]) (by kernel_rfl) ?_
 refine runD_cut 4 fun R3 hR3 => ?_
 try simp (maxSteps := 1000000) [List.take_succ_cons, List.take_zero, List.drop_succ_cons, List.drop_zero]
 repeat' (first | apply And.intro | intro _)
 any_goals (first | (refine hR3 _ _ _ _ ?_; clear hR3) | omega | (simp_all <;> omega))
 refine runD_cut 1 fun R4 hR4 => ?_
 try simp (maxSteps := 1000000) [List.take_succ_cons, List.take_zero, List.drop_succ_cons, List.drop_zero]
 refine .inl ⟨_, twin10_P s sh m g (by have := hlk.1.1; omega), ?_⟩
 try simp (maxSteps := 1000000)
 repeat' (first | apply And.intro | intro _)
 any_goals (first | (refine hR4 _ _ _ _ ?_; clear hR4) | omega | (simp_all <;> omega))
 try simp (maxSteps := 1000000) [List.take_succ_cons, List.take_zero, List.drop_succ_cons, List.drop_zero]
 repeat' (first | apply And.intro | intro _)
 any_goals (first | kernel_rfl | (refine hK2 _ ?_; clear hK2) | omega | (simp_all <;> omega))
 refine swp_seq fun K6 hK6 => ?_
 refine swp_ownb 145 8 3 (by rfl) (by rfl) (by rfl) ?_
 simp only [List.set]
 refine swp_region ty_ok ?_
 try simp (maxSteps := 1000000)
 repeat' (first | apply And.intro | intro _)
 any_goals (first | (refine hK6 _ ?_; clear hK6) | omega | (simp_all <;> omega))
 refine swp_seq fun K7 hK7 => ?_
 refine swp_seq fun K8 hK8 => ?_
 refine swp_region ty_ok ?_
 try simp (maxSteps := 1000000)
 repeat' (first | apply And.intro | intro _)
 any_goals (first | (refine hK8 _ ?_; clear hK8) | omega | (simp_all <;> omega))
 refine swp_block ?_
 refine swp_ownb 145 5 36 (by rfl) (by rfl) (by rfl) ?_
 simp only [List.set]
 refine swp_loop 163 (fun m_ s_ => ∃ (i : Nat), (i ≤ se.length) ∧ s_ = ⟨[(1, .ptr 95 0 0 1), (2, .ptr 96 0 0 1), (3, .ptr 145 0 0 1), (4, .int .i64 (i : Nat))], [(95, some ⟨.rows 9 [[.int .i64 ga, .int .u8 s, .int .u8 sh, .int .i64 m, .ro (.ints .i64 g), .ro (.rows 1 (se.map fun w => [.ro (.rows 2 (w.map Sc.row))])), .ro (.rows 1 (st.map fun w => [.ro (.ints .i64 w)])), .ro (.rows 1 (tn.map fun w => [.ro (.rows 5 (w.map Fl.row))])), .ro (.ints .i64 ln)]], true, 29⟩), (96, some ⟨.rows 9 [[.int .i64 0, .int .u8 0, .int .u8 0, .int .i64 0, .nil (.ints .i64 []), .nil (.rows 1 []), .nil (.rows 1 []), .nil (.rows 1 []), .nil (.ints .i64 [])]], true, 29⟩), (145, some ⟨.rows 9 [[.int .i64 ga, .int .u8 s, .int .u8 sh, .int .i64 m, .ro (.ints .i64 g), .sl 162 0 i i, .nil (.rows 1 []), .nil (.rows 1 []), .sl 161 0 ln.length ln.length]], true, 29⟩), (161, some ⟨.ints .i64 ln, false, 3⟩), (162, some ⟨.rows 1 ((se.map fun w => [PV.ro (.rows 2 (w.map Sc.row))]).take i), false, 36⟩)], 163⟩ ∧ m_ = se.length - i) _ ⟨[(1, .ptr 95 0 0 1), (2, .ptr 96 0 0 1), (3, .ptr 145 0 0 1), (4, .int .i64 (0 : Nat))], [(95, some ⟨.rows 9 [[.int .i64 ga, .int .u8 s, .int .u8 sh, .int .i64 m, .ro (.ints .i64 g), .ro (.rows 1 (se.map fun w => [.ro (.rows 2 (w.map Sc.row))])), .ro (.rows 1 (st.map fun w => [.ro (.ints .i64 w)])), .ro (.rows 1 (tn.map fun w => [.ro (.rows 5 (w.map Fl.row))])), .ro (.ints .i64 ln)]], true, 29⟩), (96, some ⟨.rows 9 [[.int .i64 0, .int .u8 0, .int .u8 0, .int .i64 0, .nil (.ints .i64 []), .nil (.rows 1 []), .nil (.rows 1 []), .nil (.rows 1 []), .nil (.ints .i64 [])]], true, 29⟩), (145, some ⟨.rows 9 [[.int .i64 ga, .int .u8 s, .int .u8 sh, .int .i64 m, .ro (.ints .i64 g), .sl 162 0 0 0, .nil (.rows 1 []), .nil (.rows 1 []), .sl 161 0 ln.length ln.length]], true, 29⟩), (161, some ⟨.ints .i64 ln, false, 3⟩), (162, some ⟨.rows 1 ((se.map fun w => [PV.ro (.rows 2 (w.map Sc.row))]).take 0), false, 36⟩)], 163⟩ ⟨by simp [getT, PV.lo, lo1], by simp [getH, Blk.lo, Cells.lo, lo1], rfl, by omega⟩ ⟨(0), by (first | omega | (simp_all <;> omega)), rfl, rfl⟩ ?_
 rintro m_ s_ ⟨i, hL9_0, rfl, rfl⟩ KL9 hL9
 have hiw : IntKind.i64.wrap ((i : Int) + 1) = (((i + 1 : Nat)) : Int) := wnext (by omega)
 refine swp_seq fun K10 hK10 => ?_
 refine swp_seq fun K11 hK11 => ?_
 refine swp_region ty_ok ?_
 try simp (maxSteps := 1000000)
 repeat' (first | apply And.intro | intro _)
 any_goals (first | (refine hK11 _ ?_; clear hK11) | omega | (simp_all <;> omega))
 refine swp_if fun C12 hC12 => ?_
 try simp (maxSteps := 1000000)
 refine hC12 _ (fun hc12 => ?_) (fun hc12 => ?_)
 ·clear hC12
  try simp at hc12
  refine swp_skip ?_
  try simp only [thn, inBlk]
  refine hK10 _ ?_; clear hK10
  refine swp_seq fun K13 hK13 => ?_
  refine swp_block ?_
  have hmi : min i se.length = i := Nat.min_eq_left (by omega)
  have hla : (se[i]?.getD []).length ≤ 1000 := hl5 _ (mem_at (w := se) (j := i) (by omega))
  have hra := s_at (l := se) (k := i) (by omega)
  have hka := tk_s (fun w => [PV.ro (.rows 2 (w.map Sc.row))]) [] (l := se) (k := i) (by omega)
  refine swp_draw ty_ok mixed (ms := [0, 1, 0, 4, 0, 28, 60, 124, 252, 511, 1023, 2047]) (by kernel_rfl) ?_
  refine runD_cut 8 fun R14 hR14 => ?_
  try simp (maxSteps := 1000000) [hra, hmi, List.take_succ_cons, List.take_zero, List.drop_succ_cons, List.drop_zero]
  repeat' (first | apply And.intro | intro _)
  any_goals (first | (refine hR14 _ _ _ _ ?_; clear hR14) | omega | (simp_all <;> omega))
  refine runD_cut 1 fun R15 hR15 => ?_
  try simp (maxSteps := 1000000) [hra, hmi, List.take_succ_cons, List.take_zero, List.drop_succ_cons, List.drop_zero]
  repeat' (first | apply And.intro | intro _)
  any_goals (first | (refine Or.inl (hR15 _ _ _ _ ?_); clear hR15) | omega | (simp_all <;> omega))
  try simp (maxSteps := 1000000) [hra, hmi, List.take_succ_cons, List.take_zero, List.drop_succ_cons, List.drop_zero]
  repeat' (first | apply And.intro | intro _)
  any_goals (first | kernel_rfl | (refine hK13 _ ?_; clear hK13) | omega | (simp_all <;> omega))
  refine swp_region ty_ok ?_
  try simp (maxSteps := 1000000)
  repeat' apply And.intro
  any_goals (try omega)
  refine hL9 _ ⟨[(1, .ptr 95 0 0 1), (2, .ptr 96 0 0 1), (3, .ptr 145 0 0 1), (4, .int .i64 ((i + 1) : Nat))], [(95, some ⟨.rows 9 [[.int .i64 ga, .int .u8 s, .int .u8 sh, .int .i64 m, .ro (.ints .i64 g), .ro (.rows 1 (se.map fun w => [.ro (.rows 2 (w.map Sc.row))])), .ro (.rows 1 (st.map fun w => [.ro (.ints .i64 w)])), .ro (.rows 1 (tn.map fun w => [.ro (.rows 5 (w.map Fl.row))])), .ro (.ints .i64 ln)]], true, 29⟩), (96, some ⟨.rows 9 [[.int .i64 0, .int .u8 0, .int .u8 0, .int .i64 0, .nil (.ints .i64 []), .nil (.rows 1 []), .nil (.rows 1 []), .nil (.rows 1 []), .nil (.ints .i64 [])]], true, 29⟩), (145, some ⟨.rows 9 [[.int .i64 ga, .int .u8 s, .int .u8 sh, .int .i64 m, .ro (.ints .i64 g), .sl 162 0 (i + 1) (i + 1), .nil (.rows 1 []), .nil (.rows 1 []), .sl 161 0 ln.length ln.length]], true, 29⟩), (161, some ⟨.ints .i64 ln, false, 3⟩), (162, some ⟨.rows 1 ((se.map fun w => [PV.ro (.rows 2 (w.map Sc.row))]).take (i + 1)), false, 36⟩)], 163⟩ _ ?_ ⟨(i + 1), by (first | omega | (simp_all <;> omega)), rfl, rfl⟩ ⟨by simp [getT, PV.lo, lo1, hiw], by simp [getH, Blk.lo, Cells.lo, lo1, hka], rfl, by omega⟩
  omega
 ·clear hC12
  try simp at hc12
  refine swp_exit ?_
  simp [thn, inBlk]
  refine hK7 _ ?_; clear hK7
  refine swp_seq fun K17 hK17 => ?_
  refine swp_seq fun K18 hK18 => ?_
  refine swp_region ty_ok ?_
  try simp (maxSteps := 1000000)
  repeat' (first | apply And.intro | intro _)
  any_goals (first | (refine hK18 _ ?_; clear hK18) | omega | (simp_all <;> omega))
  refine swp_block ?_
  have hie : i = se.length := by omega
  subst hie
  refine swp_ownb 145 6 22 (by rfl) (by rfl) (by rfl) ?_
  simp only [List.set]
  refine swp_loop 164 (fun m_ s_ => ∃ (j : Nat), (j ≤ st.length) ∧ s_ = ⟨[(1, .ptr 95 0 0 1), (2, .ptr 96 0 0 1), (3, .ptr 145 0 0 1), (5, .int .i64 (j : Nat))], [(95, some ⟨.rows 9 [[.int .i64 ga, .int .u8 s, .int .u8 sh, .int .i64 m, .ro (.ints .i64 g), .ro (.rows 1 (se.map fun w => [.ro (.rows 2 (w.map Sc.row))])), .ro (.rows 1 (st.map fun w => [.ro (.ints .i64 w)])), .ro (.rows 1 (tn.map fun w => [.ro (.rows 5 (w.map Fl.row))])), .ro (.ints .i64 ln)]], true, 29⟩), (96, some ⟨.rows 9 [[.int .i64 0, .int .u8 0, .int .u8 0, .int .i64 0, .nil (.ints .i64 []), .nil (.rows 1 []), .nil (.rows 1 []), .nil (.rows 1 []), .nil (.ints .i64 [])]], true, 29⟩), (145, some ⟨.rows 9 [[.int .i64 ga, .int .u8 s, .int .u8 sh, .int .i64 m, .ro (.ints .i64 g), .sl 162 0 se.length se.length, .sl 163 0 j j, .nil (.rows 1 []), .sl 161 0 ln.length ln.length]], true, 29⟩), (161, some ⟨.ints .i64 ln, false, 3⟩), (162, some ⟨.rows 1 ((se.map fun w => [PV.ro (.rows 2 (w.map Sc.row))]).take se.length), false, 36⟩), (163, some ⟨.rows 1 ((st.map fun w => [PV.ro (.ints .i64 w)]).take j), false, 22⟩)], 164⟩ ∧ m_ = st.length - j) _ ⟨[(1, .ptr 95 0 0 1), (2, .ptr 96 0 0 1), (3, .ptr 145 0 0 1), (5, .int .i64 (0 : Nat))], [(95, some ⟨.rows 9 [[.int .i64 ga, .int .u8 s, .int .u8 sh, .int .i64 m, .ro (.ints .i64 g), .ro (.rows 1 (se.map fun w => [.ro (.rows 2 (w.map Sc.row))])), .ro (.rows 1 (st.map fun w => [.ro (.ints .i64 w)])), .ro (.rows 1 (tn.map fun w => [.ro (.rows 5 (w.map Fl.row))])), .ro (.ints .i64 ln)]], true, 29⟩), (96, some ⟨.rows 9 [[.int .i64 0, .int .u8 0, .int .u8 0, .int .i64 0, .nil (.ints .i64 []), .nil (.rows 1 []), .nil (.rows 1 []), .nil (.rows 1 []), .nil (.ints .i64 [])]], true, 29⟩), (145, some ⟨.rows 9 [[.int .i64 ga, .int .u8 s, .int .u8 sh, .int .i64 m, .ro (.ints .i64 g), .sl 162 0 se.length se.length, .sl 163 0 0 0, .nil (.rows 1 []), .sl 161 0 ln.length ln.length]], true, 29⟩), (161, some ⟨.ints .i64 ln, false, 3⟩), (162, some ⟨.rows 1 ((se.map fun w => [PV.ro (.rows 2 (w.map Sc.row))]).take se.length), false, 36⟩), (163, some ⟨.rows 1 ((st.map fun w => [PV.ro (.ints .i64 w)]).take 0), false, 22⟩)], 164⟩ ⟨by simp [getT, PV.lo, lo1], by simp [getH, Blk.lo, Cells.lo, lo1], rfl, by omega⟩ ⟨(0), by (first | omega | (simp_all <;> omega)), rfl, rfl⟩ ?_
  rintro m_ s_ ⟨j, hL19_0, rfl, rfl⟩ KL19 hL19
  have hjw : IntKind.i64.wrap ((j : Int) + 1) = (((j + 1 : Nat)) : Int) := wnext (by omega)
  refine swp_seq fun K20 hK20 => ?_
  refine swp_seq fun K21 hK21 => ?_
  refine swp_region ty_ok ?_
  try simp (maxSteps := 1000000)
  repeat' (first | apply And.intro | intro _)
  any_goals (first | (refine hK21 _ ?_; clear hK21) | omega | (simp_all <;> omega))
  refine swp_if fun C22 hC22 => ?_
  try simp (maxSteps := 1000000)
  refine hC22 _ (fun hc22 => ?_) (fun hc22 => ?_)
  ·clear hC22
   try simp at hc22
   refine swp_skip ?_
   try simp only [thn, inBlk]
   refine hK20 _ ?_; clear hK20
   refine swp_seq fun K23 hK23 => ?_
   refine swp_block ?_
   have hmj : min j st.length = j := Nat.min_eq_left (by omega)
   have hlb : (st[j]?.getD []).length ≤ 1000 := hl6 _ (mem_at (w := st) (j := j) (by omega))
   have hrb := i_at (l := st) (k := j) (by omega)
   have hkb := tk_s (fun w => [PV.ro (.ints .i64 w)]) [] (l := st) (k := j) (by omega)
   refine swp_draw ty_ok mixed (ms := [0, 1, 0, 4, 0, 28, 60, 124, 252, 511, 1023, 2047]) (by kernel_rfl) ?_
   refine runD_cut 8 fun R24 hR24 => ?_
   try simp (maxSteps := 1000000) [hrb, hmj, List.take_succ_cons, List.take_zero, List.drop_succ_cons, List.drop_zero]
   repeat' (first | apply And.intro | intro _)
   any_goals (first | (refine hR24 _ _ _ _ ?_; clear hR24) | omega | (simp_all <;> omega))
   refine runD_cut 1 fun R25 hR25 => ?_
   try simp (maxSteps := 1000000) [hrb, hmj, List.take_succ_cons, List.take_zero, List.drop_succ_cons, List.drop_zero]
   repeat' (first | apply And.intro | intro _)
   any_goals (first | (refine Or.inl (hR25 _ _ _ _ ?_); clear hR25) | omega | (simp_all <;> omega))
   try simp (maxSteps := 1000000) [hrb, hmj, List.take_succ_cons, List.take_zero, List.drop_succ_cons, List.drop_zero]
   repeat' (first | apply And.intro | intro _)
   any_goals (first | kernel_rfl | (refine hK23 _ ?_; clear hK23) | omega | (simp_all <;> omega))
   refine swp_region ty_ok ?_
   try simp (maxSteps := 1000000)
   repeat' apply And.intro
   any_goals (try omega)
   refine hL19 _ ⟨[(1, .ptr 95 0 0 1), (2, .ptr 96 0 0 1), (3, .ptr 145 0 0 1), (5, .int .i64 ((j + 1) : Nat))], [(95, some ⟨.rows 9 [[.int .i64 ga, .int .u8 s, .int .u8 sh, .int .i64 m, .ro (.ints .i64 g), .ro (.rows 1 (se.map fun w => [.ro (.rows 2 (w.map Sc.row))])), .ro (.rows 1 (st.map fun w => [.ro (.ints .i64 w)])), .ro (.rows 1 (tn.map fun w => [.ro (.rows 5 (w.map Fl.row))])), .ro (.ints .i64 ln)]], true, 29⟩), (96, some ⟨.rows 9 [[.int .i64 0, .int .u8 0, .int .u8 0, .int .i64 0, .nil (.ints .i64 []), .nil (.rows 1 []), .nil (.rows 1 []), .nil (.rows 1 []), .nil (.ints .i64 [])]], true, 29⟩), (145, some ⟨.rows 9 [[.int .i64 ga, .int .u8 s, .int .u8 sh, .int .i64 m, .ro (.ints .i64 g), .sl 162 0 se.length se.length, .sl 163 0 (j + 1) (j + 1), .nil (.rows 1 []), .sl 161 0 ln.length ln.length]], true, 29⟩), (161, some ⟨.ints .i64 ln, false, 3⟩), (162, some ⟨.rows 1 ((se.map fun w => [PV.ro (.rows 2 (w.map Sc.row))]).take se.length), false, 36⟩), (163, some ⟨.rows 1 ((st.map fun w => [PV.ro (.ints .i64 w)]).take (j + 1)), false, 22⟩)], 164⟩ _ ?_ ⟨(j + 1), by (first | omega | (simp_all <;> omega)), rfl, rfl⟩ ⟨by simp [getT, PV.lo, lo1, hjw], by simp [getH, Blk.lo, Cells.lo, lo1, hkb], rfl, by omega⟩
   omega
  ·clear hC22
   try simp at hc22
   refine swp_exit ?_
   simp [thn, inBlk]
   refine hK17 _ ?_; clear hK17
   refine swp_seq fun K27 hK27 => ?_
   refine swp_seq fun K28 hK28 => ?_
   refine swp_region ty_ok ?_
   try simp (maxSteps := 1000000)
   repeat' (first | apply And.intro | intro _)
   any_goals (first | (refine hK28 _ ?_; clear hK28) | omega | (simp_all <;> omega))
   refine swp_block ?_
   have hje : j = st.length := by omega
   subst hje
   refine swp_ownb 145 7 33 (by rfl) (by rfl) (by rfl) ?_
   simp only [List.set]
   refine swp_loop 165 (fun m_ s_ => ∃ (c : Nat), (c ≤ tn.length) ∧ s_ = ⟨[(1, .ptr 95 0 0 1), (2, .ptr 96 0 0 1), (3, .ptr 145 0 0 1), (6, .int .i64 (c : Nat))], [(95, some ⟨.rows 9 [[.int .i64 ga, .int .u8 s, .int .u8 sh, .int .i64 m, .ro (.ints .i64 g), .ro (.rows 1 (se.map fun w => [.ro (.rows 2 (w.map Sc.row))])), .ro (.rows 1 (st.map fun w => [.ro (.ints .i64 w)])), .ro (.rows 1 (tn.map fun w => [.ro (.rows 5 (w.map Fl.row))])), .ro (.ints .i64 ln)]], true, 29⟩), (96, some ⟨.rows 9 [[.int .i64 0, .int .u8 0, .int .u8 0, .int .i64 0, .nil (.ints .i64 []), .nil (.rows 1 []), .nil (.rows 1 []), .nil (.rows 1 []), .nil (.ints .i64 [])]], true, 29⟩), (145, some ⟨.rows 9 [[.int .i64 ga, .int .u8 s, .int .u8 sh, .int .i64 m, .ro (.ints .i64 g), .sl 162 0 se.length se.length, .sl 163 0 st.length st.length, .sl 164 0 c c, .sl 161 0 ln.length ln.length]], true, 29⟩), (161, some ⟨.ints .i64 ln, false, 3⟩), (162, some ⟨.rows 1 ((se.map fun w => [PV.ro (.rows 2 (w.map Sc.row))]).take se.length), false, 36⟩), (163, some ⟨.rows 1 ((st.map fun w => [PV.ro (.ints .i64 w)]).take st.length), false, 22⟩), (164, some ⟨.rows 1 ((tn.map fun w => [PV.ro (.rows 5 (w.map Fl.row))]).take c), false, 33⟩)], 165⟩ ∧ m_ = tn.length - c) _ ⟨[(1, .ptr 95 0 0 1), (2, .ptr 96 0 0 1), (3, .ptr 145 0 0 1), (6, .int .i64 (0 : Nat))], [(95, some ⟨.rows 9 [[.int .i64 ga, .int .u8 s, .int .u8 sh, .int .i64 m, .ro (.ints .i64 g), .ro (.rows 1 (se.map fun w => [.ro (.rows 2 (w.map Sc.row))])), .ro (.rows 1 (st.map fun w => [.ro (.ints .i64 w)])), .ro (.rows 1 (tn.map fun w => [.ro (.rows 5 (w.map Fl.row))])), .ro (.ints .i64 ln)]], true, 29⟩), (96, some ⟨.rows 9 [[.int .i64 0, .int .u8 0, .int .u8 0, .int .i64 0, .nil (.ints .i64 []), .nil (.rows 1 []), .nil (.rows 1 []), .nil (.rows 1 []), .nil (.ints .i64 [])]], true, 29⟩), (145, some ⟨.rows 9 [[.int .i64 ga, .int .u8 s, .int .u8 sh, .int .i64 m, .ro (.ints .i64 g), .sl 162 0 se.length se.length, .sl 163 0 st.length st.length, .sl 164 0 0 0, .sl 161 0 ln.length ln.length]], true, 29⟩), (161, some ⟨.ints .i64 ln, false, 3⟩), (162, some ⟨.rows 1 ((se.map fun w => [PV.ro (.rows 2 (w.map Sc.row))]).take se.length), false, 36⟩), (163, some ⟨.rows 1 ((st.map fun w => [PV.ro (.ints .i64 w)]).take st.length), false, 22⟩), (164, some ⟨.rows 1 ((tn.map fun w => [PV.ro (.rows 5 (w.map Fl.row))]).take 0), false, 33⟩)], 165⟩ ⟨by simp [getT, PV.lo, lo1], by simp [getH, Blk.lo, Cells.lo, lo1], rfl, by omega⟩ ⟨(0), by (first | omega | (simp_all <;> omega)), rfl, rfl⟩ ?_
   rintro m_ s_ ⟨c, hL29_0, rfl, rfl⟩ KL29 hL29
   have hcw : IntKind.i64.wrap ((c : Int) + 1) = (((c + 1 : Nat)) : Int) := wnext (by omega)
   refine swp_seq fun K30 hK30 => ?_
   refine swp_seq fun K31 hK31 => ?_
   refine swp_region ty_ok ?_
   try simp (maxSteps := 1000000)
   repeat' (first | apply And.intro | intro _)
   any_goals (first | (refine hK31 _ ?_; clear hK31) | omega | (simp_all <;> omega))
   refine swp_if fun C32 hC32 => ?_
   try simp (maxSteps := 1000000)
   refine hC32 _ (fun hc32 => ?_) (fun hc32 => ?_)
   ·clear hC32
    try simp at hc32
    refine swp_skip ?_
    try simp only [thn, inBlk]
    refine hK30 _ ?_; clear hK30
    refine swp_seq fun K33 hK33 => ?_
    refine swp_block ?_
    refine swp_seq fun K34 hK34 => ?_
    have hw0 := hl7 _ (mem_at (w := tn) (j := c) (by omega))
    have hw1 : (tn[c]?.getD []).length ≤ 1000 := hw0.1
    refine swp_region ty_ok ?_
    try simp (maxSteps := 1000000)
    repeat' (first | apply And.intro | intro _)
    any_goals (first | (refine hK34 _ ?_; clear hK34) | omega | (simp_all <;> omega))
    refine swp_seq fun K35 hK35 => ?_
    refine swp_seq fun K36 hK36 => ?_
    refine swp_region ty_ok ?_
    try simp (maxSteps := 1000000)
    repeat' (first | apply And.intro | intro _)
    any_goals (first | (refine hK36 _ ?_; clear hK36) | omega | (simp_all <;> omega))
    refine swp_block ?_
    refine swp_own 7 35 (by simp [getT]; rfl) rfl ?_
    refine swp_loop 166 (fun m_ s_ => ∃ (d : Nat), (d ≤ (tn[c]?.getD []).length) ∧ s_ = ⟨[(1, .ptr 95 0 0 1), (2, .ptr 96 0 0 1), (3, .ptr 145 0 0 1), (6, .int .i64 (c : Nat)), (7, .sl 165 0 d d), (8, .int .i64 (d : Nat))], [(95, some ⟨.rows 9 [[.int .i64 ga, .int .u8 s, .int .u8 sh, .int .i64 m, .ro (.ints .i64 g), .ro (.rows 1 (se.map fun w => [.ro (.rows 2 (w.map Sc.row))])), .ro (.rows 1 (st.map fun w => [.ro (.ints .i64 w)])), .ro (.rows 1 (tn.map fun w => [.ro (.rows 5 (w.map Fl.row))])), .ro (.ints .i64 ln)]], true, 29⟩), (96, some ⟨.rows 9 [[.int .i64 0, .int .u8 0, .int .u8 0, .int .i64 0, .nil (.ints .i64 []), .nil (.rows 1 []), .nil (.rows 1 []), .nil (.rows 1 []), .nil (.ints .i64 [])]], true, 29⟩), (145, some ⟨.rows 9 [[.int .i64 ga, .int .u8 s, .int .u8 sh, .int .i64 m, .ro (.ints .i64 g), .sl 162 0 se.length se.length, .sl 163 0 st.length st.length, .sl 164 0 c c, .sl 161 0 ln.length ln.length]], true, 29⟩), (161, some ⟨.ints .i64 ln, false, 3⟩), (162, some ⟨.rows 1 ((se.map fun w => [PV.ro (.rows 2 (w.map Sc.row))]).take se.length), false, 36⟩), (163, some ⟨.rows 1 ((st.map fun w => [PV.ro (.ints .i64 w)]).take st.length), false, 22⟩), (164, some ⟨.rows 1 ((tn.map fun w => [PV.ro (.rows 5 (w.map Fl.row))]).take c), false, 33⟩), (165, some ⟨.rows 5 (((tn[c]?.getD []).map Fl.row).take d), false, 35⟩)], 166⟩ ∧ m_ = (tn[c]?.getD []).length - d) _ ⟨[(1, .ptr 95 0 0 1), (2, .ptr 96 0 0 1), (3, .ptr 145 0 0 1), (6, .int .i64 (c : Nat)), (7, .sl 165 0 0 0), (8, .int .i64 (0 : Nat))], [(95, some ⟨.rows 9 [[.int .i64 ga, .int .u8 s, .int .u8 sh, .int .i64 m, .ro (.ints .i64 g), .ro (.rows 1 (se.map fun w => [.ro (.rows 2 (w.map Sc.row))])), .ro (.rows 1 (st.map fun w => [.ro (.ints .i64 w)])), .ro (.rows 1 (tn.map fun w => [.ro (.rows 5 (w.map Fl.row))])), .ro (.ints .i64 ln)]], true, 29⟩), (96, some ⟨.rows 9 [[.int .i64 0, .int .u8 0, .int .u8 0, .int .i64 0, .nil (.ints .i64 []), .nil (.rows 1 []), .nil (.rows 1 []), .nil (.rows 1 []), .nil (.ints .i64 [])]], true, 29⟩), (145, some ⟨.rows 9 [[.int .i64 ga, .int .u8 s, .int .u8 sh, .int .i64 m, .ro (.ints .i64 g), .sl 162 0 se.length se.length, .sl 163 0 st.length st.length, .sl 164 0 c c, .sl 161 0 ln.length ln.length]], true, 29⟩), (161, some ⟨.ints .i64 ln, false, 3⟩), (162, some ⟨.rows 1 ((se.map fun w => [PV.ro (.rows 2 (w.map Sc.row))]).take se.length), false, 36⟩), (163, some ⟨.rows 1 ((st.map fun w => [PV.ro (.ints .i64 w)]).take st.length), false, 22⟩), (164, some ⟨.rows 1 ((tn.map fun w => [PV.ro (.rows 5 (w.map Fl.row))]).take c), false, 33⟩), (165, some ⟨.rows 5 (((tn[c]?.getD []).map Fl.row).take 0), false, 35⟩)], 166⟩ ⟨by simp [getT, PV.lo, lo1], by simp [getH, Blk.lo, Cells.lo, lo1], rfl, by omega⟩ ⟨(0), by (first | omega | (simp_all <;> omega)), rfl, rfl⟩ ?_
    rintro m_ s_ ⟨d, hL37_0, rfl, rfl⟩ KL37 hL37
    have hdw : IntKind.i64.wrap ((d : Int) + 1) = (((d + 1 : Nat)) : Int) := wnext (by omega)
    refine swp_seq fun K38 hK38 => ?_
    refine swp_seq fun K39 hK39 => ?_
    have hrc := w_at (l := tn) (k := c) (by omega)
    refine swp_region ty_ok ?_
    try simp (maxSteps := 1000000) [hrc]
    repeat' (first | apply And.intro | intro _)
    any_goals (first | (refine hK39 _ ?_; clear hK39) | omega | (simp_all <;> omega))
    refine swp_if fun C40 hC40 => ?_
    try simp (maxSteps := 1000000) [hrc]
    refine hC40 _ (fun hc40 => ?_) (fun hc40 => ?_)
    ·clear hC40
     try simp at hc40
     refine swp_skip ?_
     try simp only [thn, inBlk]
     refine hK38 _ ?_; clear hK38
     refine swp_seq fun K41 hK41 => ?_
     refine swp_block ?_
     refine swp_seq fun K42 hK42 => ?_
     have hrc := w_at (l := tn) (k := c) (by omega)
     have hlc : ((tn[c]?.getD [])[d]?.getD default).co.length ≤ 1000 := hw0.2 _ (mem_at (w := (tn[c]?.getD [])) (j := d) (by omega))
     have hrd := row_at (ws := (tn[c]?.getD [])) (k := d) (by omega)
     have hkd := tk_s Fl.row default (l := (tn[c]?.getD [])) (k := d) (by omega)
     refine swp_region ty_ok ?_
     try simp (maxSteps := 1000000) [hrc, hrd]
     repeat' (first | apply And.intro | intro _)
     any_goals (first | (refine hK42 _ ?_; clear hK42) | omega | (simp_all <;> omega))
     refine swp_seq fun K43 hK43 => ?_
     refine swp_region ty_ok ?_
     try simp (maxSteps := 1000000)
     repeat' (first | apply And.intro | intro _)
     any_goals (first | (refine hK43 _ ?_; clear hK43) | omega | (simp_all <;> omega))
     have hmd : min d (tn[c]?.getD []).length = d := Nat.min_eq_left (by omega)
     refine swp_region ty_ok ?_
     refine runs_cut 2 fun R44 hR44 => ?_
     try simp (maxSteps := 1000000) [hmd, List.take_succ_cons, List.take_zero, List.drop_succ_cons, List.drop_zero]
     repeat' (first | apply And.intro | intro _)
     any_goals (first | (refine hR44 _ ?_; clear hR44) | omega | (simp_all <;> omega))
     refine runs_cut 1 fun R45 hR45 => ?_
     try simp (maxSteps := 1000000) [hmd, List.take_succ_cons, List.take_zero, List.drop_succ_cons, List.drop_zero]
     repeat' (first | apply And.intro | intro _)
     any_goals (first | (refine Or.inl (hR45 _ ?_); clear hR45) | omega | (simp_all <;> omega))
     try simp (maxSteps := 1000000) [hmd, List.take_succ_cons, List.take_zero, List.drop_succ_cons, List.drop_zero]
     repeat' (first | apply And.intro | intro _)
     any_goals (first | (refine hK41 _ ?_; clear hK41) | omega | (simp_all <;> omega))
     refine swp_region ty_ok ?_
     try simp (maxSteps := 1000000)
     repeat' apply And.intro
     any_goals (try omega)
     refine hL37 _ ⟨[(1, .ptr 95 0 0 1), (2, .ptr 96 0 0 1), (3, .ptr 145 0 0 1), (6, .int .i64 (c : Nat)), (7, .sl 165 0 (d + 1) (d + 1)), (8, .int .i64 ((d + 1) : Nat))], [(95, some ⟨.rows 9 [[.int .i64 ga, .int .u8 s, .int .u8 sh, .int .i64 m, .ro (.ints .i64 g), .ro (.rows 1 (se.map fun w => [.ro (.rows 2 (w.map Sc.row))])), .ro (.rows 1 (st.map fun w => [.ro (.ints .i64 w)])), .ro (.rows 1 (tn.map fun w => [.ro (.rows 5 (w.map Fl.row))])), .ro (.ints .i64 ln)]], true, 29⟩), (96, some ⟨.rows 9 [[.int .i64 0, .int .u8 0, .int .u8 0, .int .i64 0, .nil (.ints .i64 []), .nil (.rows 1 []), .nil (.rows 1 []), .nil (.rows 1 []), .nil (.ints .i64 [])]], true, 29⟩), (145, some ⟨.rows 9 [[.int .i64 ga, .int .u8 s, .int .u8 sh, .int .i64 m, .ro (.ints .i64 g), .sl 162 0 se.length se.length, .sl 163 0 st.length st.length, .sl 164 0 c c, .sl 161 0 ln.length ln.length]], true, 29⟩), (161, some ⟨.ints .i64 ln, false, 3⟩), (162, some ⟨.rows 1 ((se.map fun w => [PV.ro (.rows 2 (w.map Sc.row))]).take se.length), false, 36⟩), (163, some ⟨.rows 1 ((st.map fun w => [PV.ro (.ints .i64 w)]).take st.length), false, 22⟩), (164, some ⟨.rows 1 ((tn.map fun w => [PV.ro (.rows 5 (w.map Fl.row))]).take c), false, 33⟩), (165, some ⟨.rows 5 (((tn[c]?.getD []).map Fl.row).take (d + 1)), false, 35⟩)], 166⟩ _ ?_ ⟨(d + 1), by (first | omega | (simp_all <;> omega)), rfl, rfl⟩ ⟨by simp [getT, PV.lo, lo1, hdw], by simp [getH, Blk.lo, Cells.lo, lo1, hkd, Fl.row], rfl, by omega⟩
     omega
    ·clear hC40
     try simp at hc40
     refine swp_exit ?_
     simp [thn, inBlk]
     refine hK35 _ ?_; clear hK35
     have hmc : min c tn.length = c := Nat.min_eq_left (by omega)
     have hde : d = (tn[c]?.getD []).length := by omega
     subst hde
     have hrc := w_at (l := tn) (k := c) (by omega)
     have hkc := tk_s (fun w => [PV.ro (.rows 5 (w.map Fl.row))]) [] (l := tn) (k := c) (by omega)
     refine swp_region ty_ok ?_
     refine runs_cut 3 fun R46 hR46 => ?_
     try simp (maxSteps := 1000000) [tk_e, hmc, List.take_succ_cons, List.take_zero, List.drop_succ_cons, List.drop_zero]
     repeat' (first | apply And.intro | intro _)
     any_goals (first | (refine hR46 _ ?_; clear hR46) | omega | (simp_all <;> omega))
     refine runs_cut 1 fun R47 hR47 => ?_
     try simp (maxSteps := 1000000) [tk_e, hmc, List.take_succ_cons, List.take_zero, List.drop_succ_cons, List.drop_zero]
     repeat' (first | apply And.intro | intro _)
     any_goals (first | (refine Or.inl (hR47 _ ?_); clear hR47) | omega | (simp_all <;> omega))
     try simp (maxSteps := 1000000) [tk_e, hmc, List.take_succ_cons, List.take_zero, List.drop_succ_cons, List.drop_zero]
     repeat' (first | apply And.intro | intro _)
     any_goals (first | (refine hK33 _ ?_; clear hK33) | omega | (simp_all <;> omega))
     refine swp_region ty_ok ?_
     try simp (maxSteps := 1000000)
     repeat' apply And.intro
     any_goals (try omega)
     refine hL29 _ ⟨[(1, .ptr 95 0 0 1), (2, .ptr 96 0 0 1), (3, .ptr 145 0 0 1), (6, .int .i64 ((c + 1) : Nat))], [(95, some ⟨.rows 9 [[.int .i64 ga, .int .u8 s, .int .u8 sh, .int .i64 m, .ro (.ints .i64 g), .ro (.rows 1 (se.map fun w => [.ro (.rows 2 (w.map Sc.row))])), .ro (.rows 1 (st.map fun w => [.ro (.ints .i64 w)])), .ro (.rows 1 (tn.map fun w => [.ro (.rows 5 (w.map Fl.row))])), .ro (.ints .i64 ln)]], true, 29⟩), (96, some ⟨.rows 9 [[.int .i64 0, .int .u8 0, .int .u8 0, .int .i64 0, .nil (.ints .i64 []), .nil (.rows 1 []), .nil (.rows 1 []), .nil (.rows 1 []), .nil (.ints .i64 [])]], true, 29⟩), (145, some ⟨.rows 9 [[.int .i64 ga, .int .u8 s, .int .u8 sh, .int .i64 m, .ro (.ints .i64 g), .sl 162 0 se.length se.length, .sl 163 0 st.length st.length, .sl 164 0 (c + 1) (c + 1), .sl 161 0 ln.length ln.length]], true, 29⟩), (161, some ⟨.ints .i64 ln, false, 3⟩), (162, some ⟨.rows 1 ((se.map fun w => [PV.ro (.rows 2 (w.map Sc.row))]).take se.length), false, 36⟩), (163, some ⟨.rows 1 ((st.map fun w => [PV.ro (.ints .i64 w)]).take st.length), false, 22⟩), (164, some ⟨.rows 1 ((tn.map fun w => [PV.ro (.rows 5 (w.map Fl.row))]).take (c + 1)), false, 33⟩)], 165⟩ _ ?_ ⟨(c + 1), by (first | omega | (simp_all <;> omega)), rfl, rfl⟩ ⟨by simp [getT, PV.lo, lo1, hcw], by simp [getH, Blk.lo, Cells.lo, lo1, hkc, tk_e], rfl, by omega⟩
     omega
   ·clear hC32
    try simp at hc32
    refine swp_exit ?_
    simp [thn, inBlk]
    refine hK27 _ ?_; clear hK27
    refine swp_seq fun K48 hK48 => ?_
    have hce : c = tn.length := by omega
    subst hce
    refine swp_region ty_ok ?_
    try simp (maxSteps := 1000000)
    repeat' (first | apply And.intro | intro _)
    any_goals (first | (refine hK48 _ ?_; clear hK48) | omega | (simp_all <;> omega))
    refine swp_ret ?_
    simp [fnPostH, PV.inR, inR1, PV.inL, inL1, Blk.inL, Cells.inL, put_at, Try.results18, resP, tupOf]
    simp [tk_e]

theorem tw2 (ga s sh m : Int) (g : List Int) (se : List (List Sc)) (st : List (List Int)) (tn : List (List Fl)) (ln : List Int) (hl : LenOk g se st tn) (hlx : ln.length ≤ 1000000) : HCall Try.prog 18 [.agg [.int .i64 ga, .int .u8 s, .int .u8 sh, .int .i64 m, .ro (.ints .i64 g), .ro (.rows 1 (se.map fun w => [.ro (.rows 2 (w.map Sc.row))])), .ro (.rows 1 (st.map fun w => [.ro (.ints .i64 w)])), .ro (.rows 1 (tn.map fun w => [.ro (.rows 5 (w.map Fl.row))])), .ro (.ints .i64 ln)]] [] 95 (.agg [.int .i64 ga, .int .u8 s, .int .u8 sh, .int .i64 m, .ro (.ints .i64 g), .sl 95 0 se.length se.length, .sl 96 0 st.length st.length, .sl 97 0 tn.length tn.length, .sl 98 0 ln.length ln.length]) [(95, some ⟨.rows 1 (se.map fun w => [PV.ro (.rows 2 (w.map Sc.row))]), false, 36⟩), (96, some ⟨.rows 1 (st.map fun w => [PV.ro (.ints .i64 w)]), false, 22⟩), (97, some ⟨.rows 1 (tn.map fun w => [PV.ro (.rows 5 (w.map Fl.row))]), false, 33⟩), (98, some ⟨.ints .i64 ln, false, 3⟩)] :=
 hcall_tr (twin_H2 ga s sh m g se st tn ln hl hlx) [(162,95),(163,96),(164,97),(161,98)] (by decide) (by decide) (by simp [okR, leaf2, leafR, pur1]) (by simp)
end Go.Proofs.Ytmkgfgdipkagbaa

