import Derived.Test.YtgheplondkoedaaWf
import Derived.Test.YtgheplondkoedaaTyh
import Derived.Test.YtgheplondkoedaaHbits
import Derived.Test.YtgheplondkoedaaHbits2
import Derived.Test.YtgheplondkoedaaHsrt
import Derived.Test.YtgheplondkoedaaHbk
import Derived.Test.YtgheplondkoedaaSca
namespace Go.Proofs.Ytgheplondkoedaa
set_option linter.unusedVariables false
set_option linter.unusedSimpArgs false
set_option maxRecDepth 10000
open Go Go.Pv

open Go.RowKit
def rfC : Code → List (Code × Code)
 | .seq a b => rfC a ++ rfC b
 | .cond _ a b => rfC a ++ rfC b
 | .block _ a => rfC a
 | .loop a => rfC a
 | .scope a => rfC a
 | .rangeFunc _ _ a b => [(a, b)]
 | _ => []
def rfN (f : Func) (k : Nat) : Code × Code := ((f.body.map rfC).getD []).getD k (.skip, .skip)
theorem psOf_lo {nt k : Nat} {s : List (Nat × PV)} (h : s.all (fun p => p.2.lo k) = true) : ∀ x ∈ psOf nt s, PV.lo k x = true := fun x hx => by
 obtain ⟨t, _, rfl⟩ := List.mem_map.1 hx
 rcases getT_mem s t with h1 | h1
 ·rw [h1]; rfl
 ·exact List.all_eq_true.1 h _ h1
theorem psOf_mem {nt : Nat} {s : List (Nat × PV)} {x : PV} (hx : x ∈ psOf nt s) : x = .any ∨ ∃ p ∈ s, p.2 = x := by
 obtain ⟨t, _, rfl⟩ := List.mem_map.1 hx
 rcases getT_mem s t with h1 | h1
 ·exact .inl h1
 ·exact .inr ⟨_, h1, rfl⟩

def absI (n : Int) : Int := if n < 0 then -n else n
theorem oG_bad {l : List (List Sc)} {st : List (List Int)} {ga : Int} {k : Nat} (hk : k < l.length) (h : ¬ ((st[k]?.getD []).length = (RW l k).length ∧ oN (RW l k) (st[k]?.getD []) (gN l st ga k) (RW l k).length = true)) : oG l st ga l.length = false := by
 cases hh : oG l st ga l.length with
 | false => rfl
 | true => exact absurd (oG_at hh hk) h
theorem oN_bad {bs ns : List Int} {a : Int × Int} {j n : Nat} (hj : j < n) (h : bdB (aN bs ns a j) (bs[j]?.getD 0) (ns[j]?.getD 0) = false) : ¬ oN bs ns a n = true := fun hh => by rw [oN_at hh hj] at h; cases h
theorem bd_iff {a : Int × Int} {b n : Int} : bdB a b n = true ↔ (b = 0 → n = 0) ∧ (b = 13 → (0 ≤ n ∧ n ≤ 511) ∧ (a.2 < 0 ∨ (a.2 - 60 ≤ n ∧ n ≤ a.2 + 60))) ∧ (¬ b = 0 → ¬ b = 13 → (0 ≤ n ∧ n ≤ 255) ∧ a.1 - 60 ≤ n ∧ n ≤ a.1 + 60) := by
 unfold bdB
 by_cases h0 : b = 0
 ·rw [if_pos h0, decide_eq_true_eq]
  omega
 ·rw [if_neg h0]
  unfold tkB
  by_cases h1 : b = 13
  ·rw [if_pos h1, decide_eq_true_eq]
   omega
  ·rw [if_neg h1, decide_eq_true_eq]
   omega
theorem RW_F {l : List (List Sc)} {k : Nat} (hk : k < l.length) (h : ∀ w ∈ l, (∀ x ∈ w, badS x = false) ∧ (w.map Sc.len).sum ≤ 40 ∧ w.length ≤ 40) : (RW l k).length ≤ 40 ∧ (∀ j : Nat, 0 ≤ (RW l k)[j]?.getD 0 ∧ ((RW l k)[j]?.getD 0 ≤ 11 ∨ (RW l k)[j]?.getD 0 = 13)) ∧ (l[k]?.getD []).length ≤ 40 ∧ ∀ x ∈ l[k]?.getD [], badS x = false := by
 obtain ⟨h1, h2, h3⟩ := h _ (mem_at (w := l) (j := k) hk)
 have h1 : ∀ x ∈ l[k]?.getD [], badS x = false := h1
 have h4 := bkR_len h1
 have h2 : ((l[k]?.getD []).map Sc.len).sum ≤ 40 := h2
 refine ⟨by unfold RW; omega, fun j => ?_, h3, h1⟩
 by_cases hj : j < (RW l k).length
 ·rw [List.getElem?_eq_getElem hj]
  exact bkR_mem h1 _ (List.getElem_mem hj)
 ·rw [List.getElem?_eq_none (by omega)]
  exact ⟨by decide, .inl (by decide)⟩

attribute [local simp] runs gd step1 need evu un opnds opv ev cst cst1 cstL getT getH putT onL nxt argT cellsOf PV.one thn inBlk jmp fldP ldP ldC live Cells.len Cells.get Cells.w sug ldv bin eqF eq1 ops2 sh2 binv Tk.agg stC apC rdS apS cpC cpS mvL zp argsP idx fillP toInts chunks mkC ixS ixA oidx slP sl0 slA optL List.append mxF bltn frzA frz frzL frz1 pur1 Cells.pur PV.scal scal1 runD rdO PV.ids id1 zids ety Eff.on cnd minb and1b ifmax ifmin mxv sugI strv w0 w1 w2 wm1
theorem reedpiperef09_Abs_ok (n : Int) (h : -1000000 ≤ n ∧ n ≤ 1000000) : PCall Try.prog 94 [.int .i64 n] (.int .i64 (absI n)) := by
 have hneg : IntKind.i64.wrap (-n) = -n := w64 (by omega)
 refine pcall_body ty_ok Try.func94 rfl (by rfl) (by simp) ?_
 rw [Try.ntmps94]
 refine swp_seq fun K1 hK1 => ?_
 refine swp_region ty_ok ?_
 try simp (maxSteps := 1000000) [hneg]
 repeat' (first | apply And.intro | intro _)
 any_goals (first | (refine hK1 _ ?_; clear hK1) | omega | (simp_all <;> omega))
 refine swp_seq fun K2 hK2 => ?_
 refine swp_seq fun K3 hK3 => ?_
 refine swp_region ty_ok ?_
 try simp (maxSteps := 1000000) [hneg]
 repeat' (first | apply And.intro | intro _)
 any_goals (first | (refine hK3 _ ?_; clear hK3) | omega | (simp_all <;> omega))
 refine swp_if fun C4 hC4 => ?_
 try simp (maxSteps := 1000000) [hneg]
 refine hC4 _ (fun hc4 => ?_) (fun hc4 => ?_)
 ·clear hC4
  try simp at hc4
  refine swp_seq fun K5 hK5 => ?_
  refine swp_region ty_ok ?_
  try simp (maxSteps := 1000000) [hneg]
  repeat' (first | apply And.intro | intro _)
  any_goals (first | (refine hK5 _ ?_; clear hK5) | omega | (simp_all <;> omega))
  refine swp_ret ?_
  simp [fnPost, Try.results94, resP, tupOf]
  rw [absI, if_pos (by assumption)]
 ·clear hC4
  try simp at hc4
  refine swp_skip ?_
  try simp only [thn, inBlk]
  refine hK2 _ ?_; clear hK2
  refine swp_seq fun K6 hK6 => ?_
  refine swp_region ty_ok ?_
  try simp (maxSteps := 1000000) [hneg]
  repeat' (first | apply And.intro | intro _)
  any_goals (first | (refine hK6 _ ?_; clear hK6) | omega | (simp_all <;> omega))
  refine swp_ret ?_
  simp [fnPost, Try.results94, resP, tupOf]
  rw [absI, if_neg (by omega)]

theorem far20_ok (a b : Int) (ha : -1000 ≤ a ∧ a ≤ 1000) (hb : -1000 ≤ b ∧ b ≤ 1000) : PCall Try.prog 111 [.int .i64 a, .int .i64 b] (.bool (decide (b < a - 60 ∨ a + 60 < b))) := by
 have hsub : IntKind.i64.wrap (a - b) = a - b := w64 (by omega)
 refine pcall_body ty_ok Try.func111 rfl (by rfl) (by simp) ?_
 rw [Try.ntmps111]
 refine swp_seq fun K1 hK1 => ?_
 refine swp_region ty_ok ?_
 try simp (maxSteps := 1000000) [hsub]
 repeat' (first | apply And.intro | intro _)
 any_goals (first | (refine hK1 _ ?_; clear hK1) | omega | (simp_all <;> omega))
 refine swp_seq fun K2 hK2 => ?_
 refine swp_region ty_ok ?_
 refine runs_cut 3 fun R3 hR3 => ?_
 try simp (maxSteps := 1000000) [hsub, List.take_succ_cons, List.take_zero, List.drop_succ_cons, List.drop_zero]
 repeat' (first | apply And.intro | intro _)
 any_goals (first | (refine hR3 _ ?_; clear hR3) | omega | (simp_all <;> omega))
 refine runs_cut 1 fun R4 hR4 => ?_
 try simp (maxSteps := 1000000) [hsub, List.take_succ_cons, List.take_zero, List.drop_succ_cons, List.drop_zero]
 refine .inl ⟨_, reedpiperef09_Abs_ok (a - b) (by omega), ?_⟩
 try simp (maxSteps := 1000000) [hsub]
 repeat' (first | apply And.intro | intro _)
 any_goals (first | (refine hR4 _ ?_; clear hR4) | omega | (simp_all <;> omega))
 try simp (maxSteps := 1000000) [hsub, List.take_succ_cons, List.take_zero, List.drop_succ_cons, List.drop_zero]
 repeat' (first | apply And.intro | intro _)
 any_goals (first | (refine hK2 _ ?_; clear hK2) | omega | (simp_all <;> omega))
 refine swp_ret ?_
 simp [fnPost, Try.results111, resP, tupOf]
 unfold absI
 rw [Bool.eq_iff_iff]
 simp
 split <;> omega

set_option maxHeartbeats 8000000 in
theorem maySt20_ok (ga : Int) (l : List (List Sc)) (st : List (List Int)) (hl : l.length ≤ 8) (hm : ∀ w ∈ l, (∀ x ∈ w, badS x = false) ∧ (w.map Sc.len).sum ≤ 40 ∧ w.length ≤ 40) (hst : st.length ≤ 1000000) (hga : 0 ≤ ga ∧ ga ≤ 255) : PCall Try.prog 80 [.int .i64 ga, .ro (.rows 1 (l.map fun w => [.ro (.rows 2 (w.map Sc.row))])), .ro (.rows 1 (st.map fun w => [.ro (.ints .i64 w)]))] (.bool (decide (l.length = st.length) && oG l st ga l.length)) := by
 refine pcall_body ty_ok Try.func80 rfl (by rfl) (by simp) ?_
 rw [Try.ntmps80]
 refine swp_seq fun K1 hK1 => ?_
 refine swp_region ty_ok ?_
 try simp (maxSteps := 1000000)
 repeat' (first | apply And.intro | intro _)
 any_goals (first | (refine hK1 _ ?_; clear hK1) | omega | (simp_all <;> omega))
 refine swp_seq fun K2 hK2 => ?_
 refine swp_seq fun K3 hK3 => ?_
 refine swp_region ty_ok ?_
 try simp (maxSteps := 1000000)
 repeat' (first | apply And.intro | intro _)
 any_goals (first | (refine hK3 _ ?_; clear hK3) | omega | (simp_all <;> omega))
 refine swp_if fun C4 hC4 => ?_
 try simp (maxSteps := 1000000)
 refine hC4 _ (fun hc4 => ?_) (fun hc4 => ?_)
 ·clear hC4
  try simp at hc4
  refine swp_seq fun K5 hK5 => ?_
  refine swp_region ty_ok ?_
  try simp (maxSteps := 1000000)
  repeat' (first | apply And.intro | intro _)
  any_goals (first | (refine hK5 _ ?_; clear hK5) | omega | (simp_all <;> omega))
  refine swp_ret ?_
  simp [fnPost, Try.results80, resP, tupOf]
  exact fun hh => absurd hh (by have h := hc4; omega)
 ·clear hC4
  try simp at hc4
  refine swp_skip ?_
  try simp only [thn, inBlk]
  refine hK2 _ ?_; clear hK2
  refine swp_seq fun K6 hK6 => ?_
  refine swp_region ty_ok ?_
  try simp (maxSteps := 1000000)
  repeat' (first | apply And.intro | intro _)
  any_goals (first | (refine hK6 _ ?_; clear hK6) | omega | (simp_all <;> omega))
  refine swp_seq fun K7 hK7 => ?_
  refine swp_region ty_ok ?_
  try simp (maxSteps := 1000000)
  repeat' (first | apply And.intro | intro _)
  any_goals (first | (refine hK7 _ ?_; clear hK7) | omega | (simp_all <;> omega))
  refine swp_seq fun K8 hK8 => ?_
  refine swp_seq fun K9 hK9 => ?_
  refine swp_region ty_ok ?_
  try simp (maxSteps := 1000000)
  repeat' (first | apply And.intro | intro _)
  any_goals (first | (refine hK9 _ ?_; clear hK9) | omega | (simp_all <;> omega))
  refine swp_block ?_
  refine swp_loop 0 (fun m_ s_ => ∃ (k : Nat), (k ≤ l.length ∧ l.length = st.length) ∧ (oG l st ga k = true) ∧ s_ = ⟨[(1, .ro (.rows 1 (l.map fun w => [.ro (.rows 2 (w.map Sc.row))]))), (2, .ro (.rows 1 (st.map fun w => [.ro (.ints .i64 w)]))), (7, .int .i64 (gN l st ga k).1), (8, .int .i64 (gN l st ga k).2), (9, .int .i64 (k : Nat))], [], 0⟩ ∧ m_ = l.length - k) _ ⟨[(1, .ro (.rows 1 (l.map fun w => [.ro (.rows 2 (w.map Sc.row))]))), (2, .ro (.rows 1 (st.map fun w => [.ro (.ints .i64 w)]))), (7, .int .i64 (gN l st ga 0).1), (8, .int .i64 (gN l st ga 0).2), (9, .int .i64 (0 : Nat))], [], 0⟩ ⟨by simp [getT, PV.lo, lo1, gN], by simp [getH, Blk.lo, Cells.lo, lo1], rfl, by omega⟩ ⟨(0), by omega, by rfl, rfl, rfl⟩ ?_
  rintro m_ s_ ⟨k, hL10_0, hL10_1, rfl, rfl⟩ KL10 hL10
  have hkw := wnext (i := k) (by omega)
  refine swp_seq fun K11 hK11 => ?_
  refine swp_seq fun K12 hK12 => ?_
  refine swp_region ty_ok ?_
  try simp (maxSteps := 1000000)
  repeat' (first | apply And.intro | intro _)
  any_goals (first | (refine hK12 _ ?_; clear hK12) | omega | (simp_all <;> omega))
  refine swp_if fun C13 hC13 => ?_
  try simp (maxSteps := 1000000)
  refine hC13 _ (fun hc13 => ?_) (fun hc13 => ?_)
  ·clear hC13
   try simp at hc13
   refine swp_skip ?_
   try simp only [thn, inBlk]
   refine hK11 _ ?_; clear hK11
   refine swp_seq fun K14 hK14 => ?_
   refine swp_block ?_
   refine swp_seq fun K15 hK15 => ?_
   have hrowS := s_at (l := l) (k := k) (by omega)
   obtain ⟨hR1, hR2, hR3, hR4⟩ := RW_F (k := k) (by omega) hm
   have hRe : RW l k = bkR (l[k]?.getD []) := rfl
   have hrowT := i_at (l := st) (k := k) (by omega)
   refine swp_region ty_ok ?_
   refine runs_cut 4 fun R16 hR16 => ?_
   try simp (maxSteps := 1000000) [hrowS, ← hRe, List.take_succ_cons, List.take_zero, List.drop_succ_cons, List.drop_zero]
   repeat' (first | apply And.intro | intro _)
   any_goals (first | (refine hR16 _ ?_; clear hR16) | omega | (simp_all <;> omega))
   refine runs_cut 1 fun R17 hR17 => ?_
   try simp (maxSteps := 1000000) [hrowS, ← hRe, List.take_succ_cons, List.take_zero, List.drop_succ_cons, List.drop_zero]
   refine .inl ⟨_, books_ok (l[k]?.getD []) hR4 hR3, ?_⟩
   try simp (maxSteps := 1000000) [hrowS, ← hRe]
   repeat' (first | apply And.intro | intro _)
   any_goals (first | (refine hR17 _ ?_; clear hR17) | omega | (simp_all <;> omega))
   try simp (maxSteps := 1000000) [hrowS, ← hRe, List.take_succ_cons, List.take_zero, List.drop_succ_cons, List.drop_zero]
   repeat' (first | apply And.intro | intro _)
   any_goals (first | (refine hK15 _ ?_; clear hK15) | omega | (simp_all <;> omega))
   refine swp_seq fun K18 hK18 => ?_
   refine swp_seq fun K19 hK19 => ?_
   refine swp_region ty_ok ?_
   try simp (maxSteps := 1000000) [hrowT]
   repeat' (first | apply And.intro | intro _)
   any_goals (first | (refine hK19 _ ?_; clear hK19) | omega | (simp_all <;> omega))
   refine swp_if fun C20 hC20 => ?_
   try simp (maxSteps := 1000000) [hrowT]
   refine hC20 _ (fun hc20 => ?_) (fun hc20 => ?_)
   ·clear hC20
    try simp at hc20
    refine swp_seq fun K21 hK21 => ?_
    refine swp_region ty_ok ?_
    try simp (maxSteps := 1000000)
    repeat' (first | apply And.intro | intro _)
    any_goals (first | (refine hK21 _ ?_; clear hK21) | omega | (simp_all <;> omega))
    refine swp_ret ?_
    simp [fnPost, Try.results80, resP, tupOf]
    exact fun _ => oG_bad (k := k) (by omega) (fun hh => absurd hh.1 (by have h := hc20; omega))
   ·clear hC20
    try simp at hc20
    refine swp_skip ?_
    try simp only [thn, inBlk]
    refine hK18 _ ?_; clear hK18
    refine swp_seq fun K22 hK22 => ?_
    refine swp_region ty_ok ?_
    try simp (maxSteps := 1000000)
    repeat' (first | apply And.intro | intro _)
    any_goals (first | (refine hK22 _ ?_; clear hK22) | omega | (simp_all <;> omega))
    refine swp_block ?_
    have hln : (st[k]?.getD []).length = (RW l k).length := by have h := hc20; omega
    have hgk := gN_ok hga k (by assumption)
    refine swp_loop 0 (fun m_ s_ => ∃ (j : Nat), (j ≤ (RW l k).length) ∧ (oN (RW l k) (st[k]?.getD []) (gN l st ga k) j = true) ∧ s_ = ⟨[(1, .ro (.rows 1 (l.map fun w => [.ro (.rows 2 (w.map Sc.row))]))), (2, .ro (.rows 1 (st.map fun w => [.ro (.ints .i64 w)]))), (7, .int .i64 (aN (RW l k) (st[k]?.getD []) (gN l st ga k) j).1), (8, .int .i64 (aN (RW l k) (st[k]?.getD []) (gN l st ga k) j).2), (9, .int .i64 (k : Nat)), (10, .ro (.ints .i64 (RW l k))), (11, .int .i64 (j : Nat))], [], 0⟩ ∧ m_ = (RW l k).length - j) _ ⟨[(1, .ro (.rows 1 (l.map fun w => [.ro (.rows 2 (w.map Sc.row))]))), (2, .ro (.rows 1 (st.map fun w => [.ro (.ints .i64 w)]))), (7, .int .i64 (aN (RW l k) (st[k]?.getD []) (gN l st ga k) 0).1), (8, .int .i64 (aN (RW l k) (st[k]?.getD []) (gN l st ga k) 0).2), (9, .int .i64 (k : Nat)), (10, .ro (.ints .i64 (RW l k))), (11, .int .i64 (0 : Nat))], [], 0⟩ ⟨by simp [getT, PV.lo, lo1, aN], by simp [getH, Blk.lo, Cells.lo, lo1], rfl, by omega⟩ ⟨(0), by omega, by rfl, rfl, rfl⟩ ?_
    rintro m_ s_ ⟨j, hL23_0, hL23_1, rfl, rfl⟩ KL23 hL23
    have hjw := wnext (i := j) (by omega)
    have hYo := aN_ok hgk j (by assumption)
    unfold AOk at hYo
    refine swp_seq fun K24 hK24 => ?_
    refine swp_seq fun K25 hK25 => ?_
    refine swp_region ty_ok ?_
    try simp (maxSteps := 1000000)
    repeat' (first | apply And.intro | intro _)
    any_goals (first | (refine hK25 _ ?_; clear hK25) | omega | (simp_all <;> omega))
    refine swp_if fun C26 hC26 => ?_
    try simp (maxSteps := 1000000)
    refine hC26 _ (fun hc26 => ?_) (fun hc26 => ?_)
    ·clear hC26
     try simp at hc26
     refine swp_skip ?_
     try simp only [thn, inBlk]
     refine hK24 _ ?_; clear hK24
     refine swp_seq fun K27 hK27 => ?_
     refine swp_block ?_
     refine swp_seq fun K28 hK28 => ?_
     refine swp_region ty_ok ?_
     try simp (maxSteps := 1000000) [hrowT]
     repeat' (first | apply And.intro | intro _)
     any_goals (first | (refine hK28 _ ?_; clear hK28) | omega | (simp_all <;> omega))
     refine swp_seq fun K29 hK29 => ?_
     refine swp_seq fun K30 hK30 => ?_
     have hBv := hR2 j
     refine swp_region ty_ok ?_
     try simp (maxSteps := 1000000)
     repeat' (first | apply And.intro | intro _)
     any_goals (first | (refine hK30 _ ?_; clear hK30) | omega | (simp_all <;> omega))
     refine swp_if fun C31 hC31 => ?_
     try simp (maxSteps := 1000000)
     refine hC31 _ (fun hc31 => ?_) (fun hc31 => ?_)
     ·clear hC31
      try simp at hc31
      refine swp_seq fun K32 hK32 => ?_
      refine swp_seq fun K33 hK33 => ?_
      refine swp_region ty_ok ?_
      try simp (maxSteps := 1000000)
      repeat' (first | apply And.intro | intro _)
      any_goals (first | (refine hK33 _ ?_; clear hK33) | omega | (simp_all <;> omega))
      refine swp_if fun C34 hC34 => ?_
      try simp (maxSteps := 1000000)
      refine hC34 _ (fun hc34 => ?_) (fun hc34 => ?_)
      ·clear hC34
       try simp at hc34
       refine swp_seq fun K35 hK35 => ?_
       refine swp_region ty_ok ?_
       try simp (maxSteps := 1000000)
       repeat' (first | apply And.intro | intro _)
       any_goals (first | (refine hK35 _ ?_; clear hK35) | omega | (simp_all <;> omega))
       refine swp_ret ?_
       simp [fnPost, Try.results80, resP, tupOf]
       have hbd : bdB (aN (RW l k) (st[k]?.getD []) (gN l st ga k) j) ((RW l k)[j]?.getD 0) ((st[k]?.getD [])[j]?.getD 0) = false := Bool.eq_false_iff.2 (fun hh => by have h := hc34; have := bd_iff.1 hh; omega)
       exact fun _ => oG_bad (k := k) (by omega) (fun hh => absurd hh.2 (oN_bad (j := j) (by omega) hbd))
      ·clear hC34
       try simp at hc34
       refine swp_skip ?_
       try simp only [thn, inBlk]
       refine hK32 _ ?_; clear hK32
       refine swp_exit ?_
       simp [thn, inBlk]
       refine hK27 _ ?_; clear hK27
       have hbd : bdB (aN (RW l k) (st[k]?.getD []) (gN l st ga k) j) ((RW l k)[j]?.getD 0) ((st[k]?.getD [])[j]?.getD 0) = true := bd_iff.2 (by omega)
       refine swp_region ty_ok ?_
       try simp (maxSteps := 1000000)
       repeat' apply And.intro
       any_goals (try omega)
       refine hL23 _ ⟨[(1, .ro (.rows 1 (l.map fun w => [.ro (.rows 2 (w.map Sc.row))]))), (2, .ro (.rows 1 (st.map fun w => [.ro (.ints .i64 w)]))), (7, .int .i64 (aN (RW l k) (st[k]?.getD []) (gN l st ga k) (j + 1)).1), (8, .int .i64 (aN (RW l k) (st[k]?.getD []) (gN l st ga k) (j + 1)).2), (9, .int .i64 (k : Nat)), (10, .ro (.ints .i64 (RW l k))), (11, .int .i64 ((j + 1) : Nat))], [], 0⟩ _ ?_ ⟨(j + 1), by omega, by (rw [oN, (by assumption : oN (RW l k) (st[k]?.getD []) (gN l st ga k) j = true), hbd]; rfl), rfl, rfl⟩ ⟨by (simp [getT, PV.lo, lo1, hjw, aN]; first | (rw [bdN_00 (by assumption)]; done) | (rw [bdN_00 (by assumption)]; exact ⟨rfl, rfl⟩) | (rw [bdN_n0 (by assumption), tkN_13 (by assumption)]; done) | (rw [bdN_n0 (by assumption), tkN_13 (by assumption)]; exact ⟨rfl, rfl⟩) | (rw [bdN_n0 (by assumption), tkN_n (by assumption)]; done) | (rw [bdN_n0 (by assumption), tkN_n (by assumption)]; exact ⟨rfl, rfl⟩)), by simp [getH, Blk.lo, Cells.lo, lo1], rfl, by omega⟩
       omega
     ·clear hC31
      try simp at hc31
      refine swp_skip ?_
      try simp only [thn, inBlk]
      refine hK29 _ ?_; clear hK29
      refine swp_seq fun K36 hK36 => ?_
      refine swp_seq fun K37 hK37 => ?_
      refine swp_region ty_ok ?_
      try simp (maxSteps := 1000000)
      repeat' (first | apply And.intro | intro _)
      any_goals (first | (refine hK37 _ ?_; clear hK37) | omega | (simp_all <;> omega))
      refine swp_if fun C38 hC38 => ?_
      try simp (maxSteps := 1000000)
      refine hC38 _ (fun hc38 => ?_) (fun hc38 => ?_)
      ·clear hC38
       try simp at hc38
       refine swp_seq fun K39 hK39 => ?_
       refine swp_seq fun K40 hK40 => ?_
       refine swp_region ty_ok ?_
       refine runs_cut 12 fun R41 hR41 => ?_
       try simp (maxSteps := 1000000) [List.take_succ_cons, List.take_zero, List.drop_succ_cons, List.drop_zero]
       repeat' (first | apply And.intro | intro _)
       any_goals (first | (refine hR41 _ ?_; clear hR41) | omega | (simp_all <;> omega))
       refine runs_cut 1 fun R42 hR42 => ?_
       try simp (maxSteps := 1000000) [List.take_succ_cons, List.take_zero, List.drop_succ_cons, List.drop_zero]
       first | refine .inl ⟨_, by (intros; exact Or.inl (far20_ok (aN (RW l k) (st[k]?.getD []) (gN l st ga k) j).2 ((st[k]?.getD [])[j]?.getD 0) (by omega) (by omega))), ?_⟩ | refine .inl ⟨_, by (intros; exact Or.inl ⟨far20_ok (aN (RW l k) (st[k]?.getD []) (gN l st ga k) j).2 ((st[k]?.getD [])[j]?.getD 0) (by omega) (by omega), rfl⟩), ?_⟩
       repeat' (first | apply And.intro | intro _)
       any_goals (first | (refine hR42 _ ?_; clear hR42) | omega | (simp_all <;> omega))
       try simp (maxSteps := 1000000) [List.take_succ_cons, List.take_zero, List.drop_succ_cons, List.drop_zero]
       repeat' (first | apply And.intro | intro _)
       any_goals (first | (refine hK40 _ ?_; clear hK40) | omega | (simp_all <;> omega))
       refine swp_if fun C43 hC43 => ?_
       try simp (maxSteps := 1000000)
       refine hC43 _ (fun hc43 => ?_) (fun hc43 => ?_)
       ·clear hC43
        try simp at hc43
        refine swp_seq fun K44 hK44 => ?_
        refine swp_region ty_ok ?_
        try simp (maxSteps := 1000000)
        repeat' (first | apply And.intro | intro _)
        any_goals (first | (refine hK44 _ ?_; clear hK44) | omega | (simp_all <;> omega))
        refine swp_ret ?_
        simp [fnPost, Try.results80, resP, tupOf]
        have hbd : bdB (aN (RW l k) (st[k]?.getD []) (gN l st ga k) j) ((RW l k)[j]?.getD 0) ((st[k]?.getD [])[j]?.getD 0) = false := Bool.eq_false_iff.2 (fun hh => by have h := hc43; have := bd_iff.1 hh; omega)
        exact fun _ => oG_bad (k := k) (by omega) (fun hh => absurd hh.2 (oN_bad (j := j) (by omega) hbd))
       ·clear hC43
        try simp at hc43
        refine swp_skip ?_
        try simp only [thn, inBlk]
        refine hK39 _ ?_; clear hK39
        refine swp_seq fun K45 hK45 => ?_
        refine swp_region ty_ok ?_
        try simp (maxSteps := 1000000)
        repeat' (first | apply And.intro | intro _)
        any_goals (first | (refine hK45 _ ?_; clear hK45) | omega | (simp_all <;> omega))
        refine swp_exit ?_
        simp [thn, inBlk]
        refine hK27 _ ?_; clear hK27
        have hbd : bdB (aN (RW l k) (st[k]?.getD []) (gN l st ga k) j) ((RW l k)[j]?.getD 0) ((st[k]?.getD [])[j]?.getD 0) = true := bd_iff.2 (by omega)
        refine swp_region ty_ok ?_
        try simp (maxSteps := 1000000)
        repeat' apply And.intro
        any_goals (try omega)
        refine hL23 _ ⟨[(1, .ro (.rows 1 (l.map fun w => [.ro (.rows 2 (w.map Sc.row))]))), (2, .ro (.rows 1 (st.map fun w => [.ro (.ints .i64 w)]))), (7, .int .i64 (aN (RW l k) (st[k]?.getD []) (gN l st ga k) (j + 1)).1), (8, .int .i64 (aN (RW l k) (st[k]?.getD []) (gN l st ga k) (j + 1)).2), (9, .int .i64 (k : Nat)), (10, .ro (.ints .i64 (RW l k))), (11, .int .i64 ((j + 1) : Nat))], [], 0⟩ _ ?_ ⟨(j + 1), by omega, by (rw [oN, (by assumption : oN (RW l k) (st[k]?.getD []) (gN l st ga k) j = true), hbd]; rfl), rfl, rfl⟩ ⟨by (simp [getT, PV.lo, lo1, hjw, aN]; first | (rw [bdN_00 (by assumption)]; done) | (rw [bdN_00 (by assumption)]; exact ⟨rfl, rfl⟩) | (rw [bdN_n0 (by assumption), tkN_13 (by assumption)]; done) | (rw [bdN_n0 (by assumption), tkN_13 (by assumption)]; exact ⟨rfl, rfl⟩) | (rw [bdN_n0 (by assumption), tkN_n (by assumption)]; done) | (rw [bdN_n0 (by assumption), tkN_n (by assumption)]; exact ⟨rfl, rfl⟩)), by simp [getH, Blk.lo, Cells.lo, lo1], rfl, by omega⟩
        omega
      ·clear hC38
       try simp at hc38
       refine swp_skip ?_
       try simp only [thn, inBlk]
       refine hK36 _ ?_; clear hK36
       refine swp_seq fun K46 hK46 => ?_
       refine swp_seq fun K47 hK47 => ?_
       refine swp_region ty_ok ?_
       refine runs_cut 9 fun R48 hR48 => ?_
       try simp (maxSteps := 1000000) [List.take_succ_cons, List.take_zero, List.drop_succ_cons, List.drop_zero]
       repeat' (first | apply And.intro | intro _)
       any_goals (first | (refine hR48 _ ?_; clear hR48) | omega | (simp_all <;> omega))
       refine runs_cut 1 fun R49 hR49 => ?_
       try simp (maxSteps := 1000000) [List.take_succ_cons, List.take_zero, List.drop_succ_cons, List.drop_zero]
       first | refine .inl ⟨_, by (intros; exact Or.inl (far20_ok (aN (RW l k) (st[k]?.getD []) (gN l st ga k) j).1 ((st[k]?.getD [])[j]?.getD 0) (by omega) (by omega))), ?_⟩ | refine .inl ⟨_, by (intros; exact Or.inl ⟨far20_ok (aN (RW l k) (st[k]?.getD []) (gN l st ga k) j).1 ((st[k]?.getD [])[j]?.getD 0) (by omega) (by omega), rfl⟩), ?_⟩
       repeat' (first | apply And.intro | intro _)
       any_goals (first | (refine hR49 _ ?_; clear hR49) | omega | (simp_all <;> omega))
       try simp (maxSteps := 1000000) [List.take_succ_cons, List.take_zero, List.drop_succ_cons, List.drop_zero]
       repeat' (first | apply And.intro | intro _)
       any_goals (first | (refine hK47 _ ?_; clear hK47) | omega | (simp_all <;> omega))
       refine swp_if fun C50 hC50 => ?_
       try simp (maxSteps := 1000000)
       refine hC50 _ (fun hc50 => ?_) (fun hc50 => ?_)
       ·clear hC50
        try simp at hc50
        refine swp_seq fun K51 hK51 => ?_
        refine swp_region ty_ok ?_
        try simp (maxSteps := 1000000)
        repeat' (first | apply And.intro | intro _)
        any_goals (first | (refine hK51 _ ?_; clear hK51) | omega | (simp_all <;> omega))
        refine swp_ret ?_
        simp [fnPost, Try.results80, resP, tupOf]
        have hbd : bdB (aN (RW l k) (st[k]?.getD []) (gN l st ga k) j) ((RW l k)[j]?.getD 0) ((st[k]?.getD [])[j]?.getD 0) = false := Bool.eq_false_iff.2 (fun hh => by have h := hc50; have := bd_iff.1 hh; omega)
        exact fun _ => oG_bad (k := k) (by omega) (fun hh => absurd hh.2 (oN_bad (j := j) (by omega) hbd))
       ·clear hC50
        try simp at hc50
        refine swp_skip ?_
        try simp only [thn, inBlk]
        refine hK46 _ ?_; clear hK46
        refine swp_region ty_ok ?_
        try simp (maxSteps := 1000000)
        repeat' (first | apply And.intro | intro _)
        any_goals (first | (refine hK27 _ ?_; clear hK27) | omega | (simp_all <;> omega))
        have hbd : bdB (aN (RW l k) (st[k]?.getD []) (gN l st ga k) j) ((RW l k)[j]?.getD 0) ((st[k]?.getD [])[j]?.getD 0) = true := bd_iff.2 (by omega)
        refine swp_region ty_ok ?_
        try simp (maxSteps := 1000000)
        repeat' apply And.intro
        any_goals (try omega)
        refine hL23 _ ⟨[(1, .ro (.rows 1 (l.map fun w => [.ro (.rows 2 (w.map Sc.row))]))), (2, .ro (.rows 1 (st.map fun w => [.ro (.ints .i64 w)]))), (7, .int .i64 (aN (RW l k) (st[k]?.getD []) (gN l st ga k) (j + 1)).1), (8, .int .i64 (aN (RW l k) (st[k]?.getD []) (gN l st ga k) (j + 1)).2), (9, .int .i64 (k : Nat)), (10, .ro (.ints .i64 (RW l k))), (11, .int .i64 ((j + 1) : Nat))], [], 0⟩ _ ?_ ⟨(j + 1), by omega, by (rw [oN, (by assumption : oN (RW l k) (st[k]?.getD []) (gN l st ga k) j = true), hbd]; rfl), rfl, rfl⟩ ⟨by (simp [getT, PV.lo, lo1, hjw, aN]; first | (rw [bdN_00 (by assumption)]; done) | (rw [bdN_00 (by assumption)]; exact ⟨rfl, rfl⟩) | (rw [bdN_n0 (by assumption), tkN_13 (by assumption)]; done) | (rw [bdN_n0 (by assumption), tkN_13 (by assumption)]; exact ⟨rfl, rfl⟩) | (rw [bdN_n0 (by assumption), tkN_n (by assumption)]; done) | (rw [bdN_n0 (by assumption), tkN_n (by assumption)]; exact ⟨rfl, rfl⟩)), by simp [getH, Blk.lo, Cells.lo, lo1], rfl, by omega⟩
        omega
    ·clear hC26
     try simp at hc26
     refine swp_exit ?_
     simp [thn, inBlk]
     refine hK14 _ ?_; clear hK14
     refine swp_region ty_ok ?_
     try simp (maxSteps := 1000000)
     repeat' apply And.intro
     any_goals (try omega)
     refine hL10 _ ⟨[(1, .ro (.rows 1 (l.map fun w => [.ro (.rows 2 (w.map Sc.row))]))), (2, .ro (.rows 1 (st.map fun w => [.ro (.ints .i64 w)]))), (7, .int .i64 (gN l st ga (k + 1)).1), (8, .int .i64 (gN l st ga (k + 1)).2), (9, .int .i64 ((k + 1) : Nat))], [], 0⟩ _ ?_ ⟨(k + 1), by omega, by (rw [oG, (by assumption : oG l st ga k = true), decide_eq_true hln, show (RW l k).length = j by omega, (by assumption : oN (RW l k) (st[k]?.getD []) (gN l st ga k) j = true)]; rfl), rfl, rfl⟩ ⟨by (have hje : j = (RW l k).length := (by omega); subst hje; simp [getT, PV.lo, lo1, hkw, gN]), by simp [getH, Blk.lo, Cells.lo, lo1], rfl, by omega⟩
     omega
  ·clear hC13
   try simp at hc13
   refine swp_exit ?_
   simp [thn, inBlk]
   refine hK8 _ ?_; clear hK8
   refine swp_seq fun K52 hK52 => ?_
   refine swp_region ty_ok ?_
   try simp (maxSteps := 1000000)
   repeat' (first | apply And.intro | intro _)
   any_goals (first | (refine hK52 _ ?_; clear hK52) | omega | (simp_all <;> omega))
   refine swp_ret ?_
   simp [fnPost, Try.results80, resP, tupOf]
   exact ⟨by omega, by rw [show l.length = k by omega]; assumption⟩

theorem rcheck20_ok (ga : Int) (l : List (List Sc)) (st : List (List Int)) (hl : l.length ≤ 1000000) (hw : ∀ w ∈ l, w.length ≤ 1000000) (hst : st.length ≤ 1000000) : PCall Try.prog 40 [.int .i64 ga, .ro (.rows 1 (l.map fun w => [.ro (.rows 2 (w.map Sc.row))])), .ro (.rows 1 (st.map fun w => [.ro (.ints .i64 w)]))] (.int .i64 (chS ga l st)) := by
 refine pcall_body ty_ok Try.func40 rfl (by rfl) (by simp) ?_
 rw [Try.ntmps40]
 refine swp_seq fun K1 hK1 => ?_
 refine swp_region ty_ok ?_
 try simp (maxSteps := 1000000)
 repeat' (first | apply And.intro | intro _)
 any_goals (first | (refine hK1 _ ?_; clear hK1) | omega | (simp_all <;> omega))
 refine swp_seq fun K2 hK2 => ?_
 refine swp_seq fun K3 hK3 => ?_
 refine swp_region ty_ok ?_
 refine runs_cut 2 fun R4 hR4 => ?_
 try simp (maxSteps := 1000000) [List.take_succ_cons, List.take_zero, List.drop_succ_cons, List.drop_zero]
 repeat' (first | apply And.intro | intro _)
 any_goals (first | (refine hR4 _ ?_; clear hR4) | omega | (simp_all <;> omega))
 refine runs_cut 1 fun R5 hR5 => ?_
 try simp (maxSteps := 1000000) [List.take_succ_cons, List.take_zero, List.drop_succ_cons, List.drop_zero]
 refine .inl ⟨_, rmay20_ok ga l hl hw, ?_⟩
 try simp (maxSteps := 1000000)
 repeat' (first | apply And.intro | intro _)
 any_goals (first | (refine hR5 _ ?_; clear hR5) | omega | (simp_all <;> omega))
 refine runs_cut 5 fun R6 hR6 => ?_
 try simp (maxSteps := 1000000) [List.take_succ_cons, List.take_zero, List.drop_succ_cons, List.drop_zero]
 repeat' (first | apply And.intro | intro _)
 any_goals (first | (refine hR6 _ ?_; clear hR6) | omega | (simp_all <;> omega))
 refine runs_cut 1 fun R7 hR7 => ?_
 try simp (maxSteps := 1000000) [List.take_succ_cons, List.take_zero, List.drop_succ_cons, List.drop_zero]
 first | refine .inl ⟨_, fun hb => .inl ⟨maySt20_ok ga l st (mayG_true (by simpa using hb)).1.2.2 (mayG_true (by simpa using hb)).2 hst ⟨(mayG_true (by simpa using hb)).1.1, (mayG_true (by simpa using hb)).1.2.1⟩, rfl⟩, ?_⟩ | refine .inl ⟨_, fun hb => .inl (maySt20_ok ga l st (mayG_true (by simpa using hb)).1.2.2 (mayG_true (by simpa using hb)).2 hst ⟨(mayG_true (by simpa using hb)).1.1, (mayG_true (by simpa using hb)).1.2.1⟩), ?_⟩
 repeat' (first | apply And.intro | intro _)
 any_goals (first | (refine hR7 _ ?_; clear hR7) | omega | (simp_all <;> omega))
 try simp (maxSteps := 1000000) [List.take_succ_cons, List.take_zero, List.drop_succ_cons, List.drop_zero]
 repeat' (first | apply And.intro | intro _)
 any_goals (first | (refine hK3 _ ?_; clear hK3) | omega | (simp_all <;> omega))
 refine swp_if fun C8 hC8 => ?_
 try simp (maxSteps := 1000000)
 refine hC8 _ (fun hc8 => ?_) (fun hc8 => ?_)
 ·clear hC8
  try simp at hc8
  refine swp_seq fun K9 hK9 => ?_
  refine swp_region ty_ok ?_
  try simp (maxSteps := 1000000)
  repeat' (first | apply And.intro | intro _)
  any_goals (first | (refine hK9 _ ?_; clear hK9) | omega | (simp_all <;> omega))
  refine swp_ret ?_
  simp [fnPost, Try.results40, resP, tupOf]
  exact chS_8 (by have h := hc8; rintro ⟨h1, h2, h3⟩; simp [h1, h2, h3] at h; simp [h2] at h3; simp [h3] at h)
 ·clear hC8
  try simp at hc8
  refine swp_skip ?_
  try simp only [thn, inBlk]
  refine hK2 _ ?_; clear hK2
  refine swp_seq fun K10 hK10 => ?_
  refine swp_region ty_ok ?_
  try simp (maxSteps := 1000000)
  repeat' (first | apply And.intro | intro _)
  any_goals (first | (refine hK10 _ ?_; clear hK10) | omega | (simp_all <;> omega))
  refine swp_ret ?_
  simp [fnPost, Try.results40, resP, tupOf]
  exact chS_0 (by have h := hc8; simpa using h)

end Go.Proofs.Ytgheplondkoedaa

