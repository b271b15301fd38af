import Derived.Test.YtgheplondkoedaaWf
import Derived.Test.YtgheplondkoedaaTyh
import Derived.Test.YtgheplondkoedaaHbits
import Derived.Test.YtgheplondkoedaaHbits2
import Derived.Test.YtgheplondkoedaaHsrt
import Derived.Test.YtgheplondkoedaaHbk
import Derived.Test.YtgheplondkoedaaHst
import Derived.Test.YtgheplondkoedaaHbk5
import Derived.Test.YtgheplondkoedaaHbk9
import Derived.Test.YtgheplondkoedaaSca
import Derived.Test.YtgheplondkoedaaSca2
import Derived.Test.YtgheplondkoedaaSca3
import Derived.Test.YtgheplondkoedaaSca4
import Derived.Test.YtgheplondkoedaaSca5
import Derived.Test.YtgheplondkoedaaSca6
namespace Go.Proofs.Ytgheplondkoedaa
set_option linter.unusedVariables false
set_option linter.unusedSimpArgs false
set_option maxRecDepth 10000
open Go Go.Pv

open Go.RowKit
theorem getE_00 {b : List Int} {a : Int} (h : 0 ≤ a ∧ a ≤ b.length) : getE b a 0 = 0 := by
 obtain ⟨n, rfl⟩ := Int.eq_ofNat_of_zero_le h.1
 exact getE_ok (a := n) (s := 0) (by omega) (by omega) (by simp)
theorem getP_0 {b : List Int} {p : Int} (h : getE b p 0 = 0) : getP b p 0 = p := by unfold getP; rw [if_pos h]; omega
theorem rwS_succ {b bs : List Int} {p : Int} {a : Int × Int} {k : Nat} {bk : Int} (h : bs[k]?.getD 0 = bk) : rwS b bs p a (k + 1) = ⟨(rwS b bs p a k).vs ++ [r1N b (rwS b bs p a k).a bk (rwS b bs p a k).p], r1P b (rwS b bs p a k).a bk (rwS b bs p a k).p, bdN (rwS b bs p a k).a bk (r1N b (rwS b bs p a k).a bk (rwS b bs p a k).p)⟩ := by rw [rwS, h]
theorem rwV_succ {b bs : List Int} {p : Int} {a : Int × Int} {k : Nat} {bk : Int} (h : bs[k]?.getD 0 = bk) : (rwS b bs p a (k + 1)).vs = (rwS b bs p a k).vs ++ [r1N b (rwS b bs p a k).a bk (rwS b bs p a k).p] := by rw [rwS_succ h]
theorem rwP_succ {b bs : List Int} {p : Int} {a : Int × Int} {k : Nat} {bk : Int} (h : bs[k]?.getD 0 = bk) : (rwS b bs p a (k + 1)).p = r1P b (rwS b bs p a k).a bk (rwS b bs p a k).p := by rw [rwS_succ h]
theorem rwA_succ {b bs : List Int} {p : Int} {a : Int × Int} {k : Nat} {bk : Int} (h : bs[k]?.getD 0 = bk) : (rwS b bs p a (k + 1)).a = bdN (rwS b bs p a k).a bk (r1N b (rwS b bs p a k).a bk (rwS b bs p a k).p) := by rw [rwS_succ h]

attribute [local simp] runs gd step1 need evu un opnds opv ev cst cst1 cstL getT getH putT onL nxt argT cellsOf PV.one thn inBlk jmp fldP ldP ldC live Cells.len Cells.get Cells.w sug ldv bin eqF eq1 ops2 sh2 binv Tk.agg stC apC rdS apS cpC cpS mvL zp argsP idx fillP toInts chunks mkC ixS ixA oidx slP sl0 slA optL List.append mxF bltn frzA frz frzL frz1 pur1 Cells.pur PV.scal scal1 runD rdO PV.ids id1 zids ety Eff.on cnd minb and1b ifmax ifmin mxv sugI strv w0 w1 w2 wm1
set_option maxHeartbeats 8000000 in
theorem read20_ok (bs : List Int) (at_ ga : Int) (l : List (List Sc)) (hm : bs.length ≤ 1000000) (hp : ∀ y ∈ bs, 0 ≤ y ∧ y ≤ 255) (hat : -9223372036854775808 ≤ at_ ∧ at_ ≤ 9223372036854775807) (hmg : mayG ga l = true) : PCall Try.prog 79 [.ro (.ints .u8 bs), .int .i64 at_, .int .i64 ga, .ro (.rows 1 (l.map fun w => [.ro (.rows 2 (w.map Sc.row))]))] (.tup [.ro (.rows 1 ((sgR bs at_ ga l).1.map fun w => [.ro (.ints .i64 w)])), .int .i64 (sgR bs at_ ga l).2.1, .int .i64 (sgR bs at_ ga l).2.2]) := by
 have hp255 : ∀ k : Nat, 0 ≤ bs[k]?.getD 0 ∧ bs[k]?.getD 0 ≤ 255 := fun k => by
  cases hk : bs[k]? with
  | none => exact ⟨by decide, by decide⟩
  | some v => exact hp v (List.mem_of_getElem? hk)
 obtain ⟨hga, hmm⟩ := mayG_true hmg
 refine pcall_body ty_ok Try.func79 rfl (by rfl) (by simp) ?_
 rw [Try.ntmps79]
 refine swp_seq fun K1 hK1 => ?_
 refine swp_region ty_ok ?_
 try simp (maxSteps := 1000000)
 repeat' (first | apply And.intro | intro _)
 any_goals (first | (refine hK1 _ ?_; clear hK1) | omega | (simp_all <;> omega))
 refine swp_seq fun K2 hK2 => ?_
 refine swp_seq fun K3 hK3 => ?_
 refine swp_region ty_ok ?_
 try simp (maxSteps := 1000000)
 repeat' (first | apply And.intro | intro _)
 any_goals (first | (refine hK3 _ ?_; clear hK3) | omega | (simp_all <;> omega))
 refine swp_if fun C4 hC4 => ?_
 try simp (maxSteps := 1000000)
 refine hC4 _ (fun hc4 => ?_) (fun hc4 => ?_)
 ·clear hC4
  try simp at hc4
  refine swp_seq fun K5 hK5 => ?_
  refine swp_region ty_ok ?_
  try simp (maxSteps := 1000000)
  repeat' (first | apply And.intro | intro _)
  any_goals (first | (refine hK5 _ ?_; clear hK5) | omega | (simp_all <;> omega))
  refine swp_ret ?_
  simp [fnPost, Try.results79, resP, tupOf]
  have hee : getE bs at_ 0 = 2 := getE_arg (by have h := hc4; omega)
  rw [sgR_2 hmg (by rw [hee]; decide), hee]
  exact ⟨rfl, rfl, rfl⟩
 ·clear hC4
  try simp at hc4
  refine swp_skip ?_
  try simp only [thn, inBlk]
  refine hK2 _ ?_; clear hK2
  refine swp_seq fun K6 hK6 => ?_
  have hain : 0 ≤ at_ ∧ at_ ≤ bs.length := (by have h := hc4; omega)
  have he0 : getE bs at_ 0 = 0 := getE_00 hain
  refine swp_region ty_ok ?_
  try simp (maxSteps := 1000000)
  repeat' (first | apply And.intro | intro _)
  any_goals (first | (refine hK6 _ ?_; clear hK6) | omega | (simp_all <;> omega))
  refine swp_seq fun K7 hK7 => ?_
  refine swp_region ty_ok ?_
  try simp (maxSteps := 1000000)
  repeat' (first | apply And.intro | intro _)
  any_goals (first | (refine hK7 _ ?_; clear hK7) | omega | (simp_all <;> omega))
  refine swp_seq fun K8 hK8 => ?_
  refine swp_region ty_ok ?_
  try simp (maxSteps := 1000000)
  repeat' (first | apply And.intro | intro _)
  any_goals (first | (refine hK8 _ ?_; clear hK8) | omega | (simp_all <;> omega))
  refine swp_seq fun K9 hK9 => ?_
  refine swp_seq fun K10 hK10 => ?_
  refine swp_region ty_ok ?_
  try simp (maxSteps := 1000000)
  repeat' (first | apply And.intro | intro _)
  any_goals (first | (refine hK10 _ ?_; clear hK10) | omega | (simp_all <;> omega))
  refine swp_block ?_
  refine swp_own 11 23 (by simp [getT]; rfl) rfl ?_
  refine swp_loop 1 (fun m_ s_ => ∃ (k : Nat), (k ≤ l.length) ∧ (gE bs l ga at_ k = 0) ∧ s_ = ⟨[(0, .ro (.ints .u8 bs)), (1, .int .i64 (gS bs l ga at_ k).p), (3, .ro (.rows 1 (l.map fun w => [.ro (.rows 2 (w.map Sc.row))]))), (11, .sl 0 0 k k), (12, .int .i64 (gS bs l ga at_ k).a.1), (13, .int .i64 (gS bs l ga at_ k).a.2), (14, .int .i64 (k : Nat))], [(0, some ⟨.rows 1 ((gS bs l ga at_ k).rows.map fun w => [.ro (.ints .i64 w)]), false, 23⟩)], 1⟩ ∧ m_ = l.length - k) _ ⟨[(0, .ro (.ints .u8 bs)), (1, .int .i64 (gS bs l ga at_ 0).p), (3, .ro (.rows 1 (l.map fun w => [.ro (.rows 2 (w.map Sc.row))]))), (11, .sl 0 0 0 0), (12, .int .i64 (gS bs l ga at_ 0).a.1), (13, .int .i64 (gS bs l ga at_ 0).a.2), (14, .int .i64 (0 : Nat))], [(0, some ⟨.rows 1 ((gS bs l ga at_ 0).rows.map fun w => [.ro (.ints .i64 w)]), false, 23⟩)], 1⟩ ⟨by simp [getT, PV.lo, lo1, gS], by simp [getH, Blk.lo, Cells.lo, lo1, gS], rfl, by omega⟩ ⟨(0), by omega, by rfl, rfl, rfl⟩ ?_
  rintro m_ s_ ⟨k, hL11_0, hL11_1, rfl, rfl⟩ KL11 hL11
  have hkw := wnext (i := k) (by omega)
  have hGl := gS_len bs l ga at_ k
  refine swp_seq fun K12 hK12 => ?_
  refine swp_seq fun K13 hK13 => ?_
  refine swp_region ty_ok ?_
  try simp (maxSteps := 1000000)
  repeat' (first | apply And.intro | intro _)
  any_goals (first | (refine hK13 _ ?_; clear hK13) | omega | (simp_all <;> omega))
  refine swp_if fun C14 hC14 => ?_
  try simp (maxSteps := 1000000)
  refine hC14 _ (fun hc14 => ?_) (fun hc14 => ?_)
  ·clear hC14
   try simp at hc14
   refine swp_skip ?_
   try simp only [thn, inBlk]
   refine hK12 _ ?_; clear hK12
   refine swp_seq fun K15 hK15 => ?_
   refine swp_block ?_
   refine swp_seq fun K16 hK16 => ?_
   have hrowS := s_at (l := l) (k := k) (by omega)
   obtain ⟨hR1, hR2, hR3, hR4⟩ := RW_F (k := k) (by omega) hmm
   have hRe : RW l k = bkR (l[k]?.getD []) := rfl
   obtain ⟨hgA, hgp⟩ := gA_ok hp hain ⟨hga.1, hga.2.1⟩ (k := k) (by assumption)
   refine swp_region ty_ok ?_
   refine runs_cut 4 fun R17 hR17 => ?_
   try simp (maxSteps := 1000000) [hrowS, ← hRe, List.take_succ_cons, List.take_zero, List.drop_succ_cons, List.drop_zero]
   repeat' (first | apply And.intro | intro _)
   any_goals (first | (refine hR17 _ ?_; clear hR17) | omega | (simp_all <;> omega))
   refine runs_cut 1 fun R18 hR18 => ?_
   try simp (maxSteps := 1000000) [hrowS, ← hRe, List.take_succ_cons, List.take_zero, List.drop_succ_cons, List.drop_zero]
   refine .inl ⟨_, books_ok (l[k]?.getD []) hR4 hR3, ?_⟩
   try simp (maxSteps := 1000000) [hrowS, ← hRe]
   repeat' (first | apply And.intro | intro _)
   any_goals (first | (refine hR18 _ ?_; clear hR18) | omega | (simp_all <;> omega))
   try simp (maxSteps := 1000000) [hrowS, ← hRe, List.take_succ_cons, List.take_zero, List.drop_succ_cons, List.drop_zero]
   repeat' (first | apply And.intro | intro _)
   any_goals (first | (refine hK16 _ ?_; clear hK16) | omega | (simp_all <;> omega))
   refine swp_seq fun K19 hK19 => ?_
   refine swp_region ty_ok ?_
   try simp (maxSteps := 1000000)
   repeat' (first | apply And.intro | intro _)
   any_goals (first | (refine hK19 _ ?_; clear hK19) | omega | (simp_all <;> omega))
   refine swp_seq fun K20 hK20 => ?_
   refine swp_seq fun K21 hK21 => ?_
   refine swp_region ty_ok ?_
   try simp (maxSteps := 1000000)
   repeat' (first | apply And.intro | intro _)
   any_goals (first | (refine hK21 _ ?_; clear hK21) | omega | (simp_all <;> omega))
   refine swp_block ?_
   refine swp_own 16 3 (by simp [getT]; rfl) rfl ?_
   refine swp_loop 2 (fun m_ s_ => ∃ (j : Nat), (j ≤ (RW l k).length) ∧ (rwE bs (RW l k) (gS bs l ga at_ k).p (gS bs l ga at_ k).a j = 0) ∧ s_ = ⟨[(0, .ro (.ints .u8 bs)), (1, .int .i64 (rwS bs (RW l k) (gS bs l ga at_ k).p (gS bs l ga at_ k).a j).p), (3, .ro (.rows 1 (l.map fun w => [.ro (.rows 2 (w.map Sc.row))]))), (11, .sl 0 0 k k), (12, .int .i64 (rwS bs (RW l k) (gS bs l ga at_ k).p (gS bs l ga at_ k).a j).a.1), (13, .int .i64 (rwS bs (RW l k) (gS bs l ga at_ k).p (gS bs l ga at_ k).a j).a.2), (14, .int .i64 (k : Nat)), (15, .ro (.ints .i64 (RW l k))), (16, .sl 1 0 j j), (17, .int .i64 (j : Nat))], [(0, some ⟨.rows 1 ((gS bs l ga at_ k).rows.map fun w => [.ro (.ints .i64 w)]), false, 23⟩), (1, some ⟨.ints .i64 (rwS bs (RW l k) (gS bs l ga at_ k).p (gS bs l ga at_ k).a j).vs, false, 3⟩)], 2⟩ ∧ m_ = (RW l k).length - j) _ ⟨[(0, .ro (.ints .u8 bs)), (1, .int .i64 (rwS bs (RW l k) (gS bs l ga at_ k).p (gS bs l ga at_ k).a 0).p), (3, .ro (.rows 1 (l.map fun w => [.ro (.rows 2 (w.map Sc.row))]))), (11, .sl 0 0 k k), (12, .int .i64 (rwS bs (RW l k) (gS bs l ga at_ k).p (gS bs l ga at_ k).a 0).a.1), (13, .int .i64 (rwS bs (RW l k) (gS bs l ga at_ k).p (gS bs l ga at_ k).a 0).a.2), (14, .int .i64 (k : Nat)), (15, .ro (.ints .i64 (RW l k))), (16, .sl 1 0 0 0), (17, .int .i64 (0 : Nat))], [(0, some ⟨.rows 1 ((gS bs l ga at_ k).rows.map fun w => [.ro (.ints .i64 w)]), false, 23⟩), (1, some ⟨.ints .i64 (rwS bs (RW l k) (gS bs l ga at_ k).p (gS bs l ga at_ k).a 0).vs, false, 3⟩)], 2⟩ ⟨by simp [getT, PV.lo, lo1, rwS], by simp [getH, Blk.lo, Cells.lo, lo1, rwS], rfl, by omega⟩ ⟨(0), by omega, by rfl, rfl, rfl⟩ ?_
   rintro m_ s_ ⟨j, hL22_0, hL22_1, rfl, rfl⟩ KL22 hL22
   have hjw := wnext (i := j) (by omega)
   have hrl := rwS_len bs (RW l k) (gS bs l ga at_ k).p (gS bs l ga at_ k).a j
   refine swp_seq fun K23 hK23 => ?_
   refine swp_seq fun K24 hK24 => ?_
   refine swp_region ty_ok ?_
   try simp (maxSteps := 1000000)
   repeat' (first | apply And.intro | intro _)
   any_goals (first | (refine hK24 _ ?_; clear hK24) | omega | (simp_all <;> omega))
   refine swp_if fun C25 hC25 => ?_
   try simp (maxSteps := 1000000)
   refine hC25 _ (fun hc25 => ?_) (fun hc25 => ?_)
   ·clear hC25
    try simp at hc25
    refine swp_skip ?_
    try simp only [thn, inBlk]
    refine hK23 _ ?_; clear hK23
    refine swp_seq fun K26 hK26 => ?_
    refine swp_block ?_
    refine swp_seq fun K27 hK27 => ?_
    refine swp_region ty_ok ?_
    try simp (maxSteps := 1000000)
    repeat' (first | apply And.intro | intro _)
    any_goals (first | (refine hK27 _ ?_; clear hK27) | omega | (simp_all <;> omega))
    refine swp_seq fun K28 hK28 => ?_
    refine swp_region ty_ok ?_
    try simp (maxSteps := 1000000)
    repeat' (first | apply And.intro | intro _)
    any_goals (first | (refine hK28 _ ?_; clear hK28) | omega | (simp_all <;> omega))
    refine swp_seq fun K29 hK29 => ?_
    refine swp_seq fun K30 hK30 => ?_
    have hBv := hR2 j
    have hYo := rwA_ok hp hgp hgA (k := j) (by assumption)
    have hYp := rwP_bd (b := bs) (bs := (RW l k)) (a := (gS bs l ga at_ k).a) (p := (gS bs l ga at_ k).p) hp255 hm ⟨by omega, by omega⟩ j
    refine swp_region ty_ok ?_
    try simp (maxSteps := 1000000)
    repeat' (first | apply And.intro | intro _)
    any_goals (first | (refine hK30 _ ?_; clear hK30) | omega | (simp_all <;> omega))
    refine swp_if fun C31 hC31 => ?_
    try simp (maxSteps := 1000000)
    refine hC31 _ (fun hc31 => ?_) (fun hc31 => ?_)
    ·clear hC31
     try simp at hc31
     refine swp_seq fun K32 hK32 => ?_
     refine swp_region ty_ok ?_
     refine runs_cut 3 fun R33 hR33 => ?_
     try simp (maxSteps := 1000000) [List.take_succ_cons, List.take_zero, List.drop_succ_cons, List.drop_zero]
     repeat' (first | apply And.intro | intro _)
     any_goals (first | (refine hR33 _ ?_; clear hR33) | omega | (simp_all <;> omega))
     refine runs_cut 1 fun R34 hR34 => ?_
     try simp (maxSteps := 1000000) [List.take_succ_cons, List.take_zero, List.drop_succ_cons, List.drop_zero]
     refine .inl ⟨_, one20_ok bs (rwS bs (RW l k) (gS bs l ga at_ k).p (gS bs l ga at_ k).a j).a ((RW l k)[j]?.getD 0) 13 (rwS bs (RW l k) (gS bs l ga at_ k).p (gS bs l ga at_ k).a j).p (by omega) hm hp ⟨by omega, by omega⟩ hYo (by omega) _ (if_pos (by omega)).symm, ?_⟩
     try simp (maxSteps := 1000000)
     repeat' (first | apply And.intro | intro _)
     any_goals (first | (refine hR34 _ ?_; clear hR34) | omega | (simp_all <;> omega))
     try simp (maxSteps := 1000000) [List.take_succ_cons, List.take_zero, List.drop_succ_cons, List.drop_zero]
     repeat' (first | apply And.intro | intro _)
     any_goals (first | (refine hK32 _ ?_; clear hK32) | omega | (simp_all <;> omega))
     refine swp_region ty_ok ?_
     try simp (maxSteps := 1000000)
     repeat' (first | apply And.intro | intro _)
     any_goals (first | (refine hK29 _ ?_; clear hK29) | omega | (simp_all <;> omega))
     refine swp_seq fun K35 hK35 => ?_
     refine swp_seq fun K36 hK36 => ?_
     refine swp_region ty_ok ?_
     try simp (maxSteps := 1000000)
     repeat' (first | apply And.intro | intro _)
     any_goals (first | (refine hK36 _ ?_; clear hK36) | omega | (simp_all <;> omega))
     refine swp_if fun C37 hC37 => ?_
     try simp (maxSteps := 1000000)
     refine hC37 _ (fun hc37 => ?_) (fun hc37 => ?_)
     ·clear hC37
      try simp at hc37
      refine swp_seq fun K38 hK38 => ?_
      refine swp_region ty_ok ?_
      try simp (maxSteps := 1000000)
      repeat' (first | apply And.intro | intro _)
      any_goals (first | (refine hK38 _ ?_; clear hK38) | omega | (simp_all <;> omega))
      refine swp_ret ?_
      simp [fnPost, Try.results79, resP, tupOf]
      have hf := sg_fail (k := k) (j := j) (by omega) (by omega) (by assumption) (by assumption) rfl hc37
      rw [sgR_3 hmg he0 (by rw [hf]; exact hc37), hf]
      exact ⟨rfl, rfl, rfl⟩
     ·clear hC37
      try simp at hc37
      refine swp_skip ?_
      try simp only [thn, inBlk]
      refine hK35 _ ?_; clear hK35
      first | (have hE0 : r1E bs (rwS bs (RW l k) (gS bs l ga at_ k).p (gS bs l ga at_ k).a j).a ((RW l k)[j]?.getD 0) (rwS bs (RW l k) (gS bs l ga at_ k).p (gS bs l ga at_ k).a j).p = 0 := hc37; have hoN : o1N bs (rwS bs (RW l k) (gS bs l ga at_ k).p (gS bs l ga at_ k).a j).a ((RW l k)[j]?.getD 0) (rwS bs (RW l k) (gS bs l ga at_ k).p (gS bs l ga at_ k).a j).p = r1N bs (rwS bs (RW l k) (gS bs l ga at_ k).p (gS bs l ga at_ k).a j).a ((RW l k)[j]?.getD 0) (rwS bs (RW l k) (gS bs l ga at_ k).p (gS bs l ga at_ k).a j).p := if_pos hE0; have hoP : o1P bs (rwS bs (RW l k) (gS bs l ga at_ k).p (gS bs l ga at_ k).a j).a ((RW l k)[j]?.getD 0) (rwS bs (RW l k) (gS bs l ga at_ k).p (gS bs l ga at_ k).a j).p = r1P bs (rwS bs (RW l k) (gS bs l ga at_ k).p (gS bs l ga at_ k).a j).a ((RW l k)[j]?.getD 0) (rwS bs (RW l k) (gS bs l ga at_ k).p (gS bs l ga at_ k).a j).p := if_pos hE0; have hq : True := trivial) | (obtain ⟨hE0, hoN, hoP⟩ := r1_0 (b := bs) (a := (rwS bs (RW l k) (gS bs l ga at_ k).p (gS bs l ga at_ k).a j).a) (bk := ((RW l k)[j]?.getD 0)) (p := (rwS bs (RW l k) (gS bs l ga at_ k).p (gS bs l ga at_ k).a j).p) (show ((RW l k)[j]?.getD 0) = 0 by omega))
      refine swp_region ty_ok ?_
      refine runs_cut 2 fun R39 hR39 => ?_
      try simp (maxSteps := 1000000) [hoN, List.take_succ_cons, List.take_zero, List.drop_succ_cons, List.drop_zero]
      repeat' (first | apply And.intro | intro _)
      any_goals (first | (refine hR39 _ ?_; clear hR39) | omega | (simp_all <;> omega))
      refine runs_cut 1 fun R40 hR40 => ?_
      try simp (maxSteps := 1000000) [hoN, List.take_succ_cons, List.take_zero, List.drop_succ_cons, List.drop_zero]
      repeat' (first | apply And.intro | intro _)
      any_goals (first | (refine Or.inl (hR40 _ ?_); clear hR40) | omega | (simp_all <;> omega))
      try simp (maxSteps := 1000000) [hoN, List.take_succ_cons, List.take_zero, List.drop_succ_cons, List.drop_zero]
      repeat' (first | apply And.intro | intro _)
      any_goals (first | (refine hK26 _ ?_; clear hK26) | omega | (simp_all <;> omega))
      first | (have hbn : bdN (rwS bs (RW l k) (gS bs l ga at_ k).p (gS bs l ga at_ k).a j).a ((RW l k)[j]?.getD 0) (r1N bs (rwS bs (RW l k) (gS bs l ga at_ k).p (gS bs l ga at_ k).a j).a ((RW l k)[j]?.getD 0) (rwS bs (RW l k) (gS bs l ga at_ k).p (gS bs l ga at_ k).a j).p) = ((rwS bs (RW l k) (gS bs l ga at_ k).p (gS bs l ga at_ k).a j).a.1, (r1N bs (rwS bs (RW l k) (gS bs l ga at_ k).p (gS bs l ga at_ k).a j).a ((RW l k)[j]?.getD 0) (rwS bs (RW l k) (gS bs l ga at_ k).p (gS bs l ga at_ k).a j).p)) := (by rw [bdN_n0 (by omega), tkN_13 (by omega)])) | (have hbn : bdN (rwS bs (RW l k) (gS bs l ga at_ k).p (gS bs l ga at_ k).a j).a ((RW l k)[j]?.getD 0) (r1N bs (rwS bs (RW l k) (gS bs l ga at_ k).p (gS bs l ga at_ k).a j).a ((RW l k)[j]?.getD 0) (rwS bs (RW l k) (gS bs l ga at_ k).p (gS bs l ga at_ k).a j).p) = ((r1N bs (rwS bs (RW l k) (gS bs l ga at_ k).p (gS bs l ga at_ k).a j).a ((RW l k)[j]?.getD 0) (rwS bs (RW l k) (gS bs l ga at_ k).p (gS bs l ga at_ k).a j).p), (rwS bs (RW l k) (gS bs l ga at_ k).p (gS bs l ga at_ k).a j).a.2) := (by rw [bdN_n0 (by omega), tkN_n (by omega)])) | (have hbn : ∀ n, bdN (rwS bs (RW l k) (gS bs l ga at_ k).p (gS bs l ga at_ k).a j).a ((RW l k)[j]?.getD 0) n = (rwS bs (RW l k) (gS bs l ga at_ k).p (gS bs l ga at_ k).a j).a := fun n => bdN_00 (by omega))
      refine swp_region ty_ok ?_
      try simp (maxSteps := 1000000)
      repeat' apply And.intro
      any_goals (try omega)
      refine hL22 _ ⟨[(0, .ro (.ints .u8 bs)), (1, .int .i64 (rwS bs (RW l k) (gS bs l ga at_ k).p (gS bs l ga at_ k).a (j + 1)).p), (3, .ro (.rows 1 (l.map fun w => [.ro (.rows 2 (w.map Sc.row))]))), (11, .sl 0 0 k k), (12, .int .i64 (rwS bs (RW l k) (gS bs l ga at_ k).p (gS bs l ga at_ k).a (j + 1)).a.1), (13, .int .i64 (rwS bs (RW l k) (gS bs l ga at_ k).p (gS bs l ga at_ k).a (j + 1)).a.2), (14, .int .i64 (k : Nat)), (15, .ro (.ints .i64 (RW l k))), (16, .sl 1 0 (j + 1) (j + 1)), (17, .int .i64 ((j + 1) : Nat))], [(0, some ⟨.rows 1 ((gS bs l ga at_ k).rows.map fun w => [.ro (.ints .i64 w)]), false, 23⟩), (1, some ⟨.ints .i64 (rwS bs (RW l k) (gS bs l ga at_ k).p (gS bs l ga at_ k).a (j + 1)).vs, false, 3⟩)], 2⟩ _ ?_ ⟨(j + 1), by omega, by (rw [rwE, if_pos (by assumption)]; exact hE0), rfl, rfl⟩ ⟨by (simp [getT, PV.lo, lo1, hjw, rwS, hbn, hoN, hoP, hrl]; try omega), by simp [getH, Blk.lo, Cells.lo, lo1, rwS, hoN], rfl, by omega⟩
      omega
    ·clear hC31
     try simp at hc31
     refine swp_seq fun K41 hK41 => ?_
     refine swp_region ty_ok ?_
     try simp (maxSteps := 1000000)
     repeat' (first | apply And.intro | intro _)
     any_goals (first | (refine hK41 _ ?_; clear hK41) | omega | (simp_all <;> omega))
     refine swp_if fun C42 hC42 => ?_
     try simp (maxSteps := 1000000)
     refine hC42 _ (fun hc42 => ?_) (fun hc42 => ?_)
     ·clear hC42
      try simp at hc42
      refine swp_seq fun K43 hK43 => ?_
      refine swp_region ty_ok ?_
      refine runs_cut 7 fun R44 hR44 => ?_
      try simp (maxSteps := 1000000) [List.take_succ_cons, List.take_zero, List.drop_succ_cons, List.drop_zero]
      repeat' (first | apply And.intro | intro _)
      any_goals (first | (refine hR44 _ ?_; clear hR44) | omega | (simp_all <;> omega))
      refine runs_cut 1 fun R45 hR45 => ?_
      try simp (maxSteps := 1000000) [List.take_succ_cons, List.take_zero, List.drop_succ_cons, List.drop_zero]
      refine .inl ⟨_, one20_ok bs (rwS bs (RW l k) (gS bs l ga at_ k).p (gS bs l ga at_ k).a j).a ((RW l k)[j]?.getD 0) ((RW l k)[j]?.getD 0) (rwS bs (RW l k) (gS bs l ga at_ k).p (gS bs l ga at_ k).a j).p rfl hm hp ⟨by omega, by omega⟩ hYo (by omega) _ (if_neg (by omega)).symm, ?_⟩
      try simp (maxSteps := 1000000)
      repeat' (first | apply And.intro | intro _)
      any_goals (first | (refine hR45 _ ?_; clear hR45) | omega | (simp_all <;> omega))
      try simp (maxSteps := 1000000) [List.take_succ_cons, List.take_zero, List.drop_succ_cons, List.drop_zero]
      repeat' (first | apply And.intro | intro _)
      any_goals (first | (refine hK43 _ ?_; clear hK43) | omega | (simp_all <;> omega))
      refine swp_region ty_ok ?_
      try simp (maxSteps := 1000000)
      repeat' (first | apply And.intro | intro _)
      any_goals (first | (refine hK29 _ ?_; clear hK29) | omega | (simp_all <;> omega))
      refine swp_seq fun K46 hK46 => ?_
      refine swp_seq fun K47 hK47 => ?_
      refine swp_region ty_ok ?_
      try simp (maxSteps := 1000000)
      repeat' (first | apply And.intro | intro _)
      any_goals (first | (refine hK47 _ ?_; clear hK47) | omega | (simp_all <;> omega))
      refine swp_if fun C48 hC48 => ?_
      try simp (maxSteps := 1000000)
      refine hC48 _ (fun hc48 => ?_) (fun hc48 => ?_)
      ·clear hC48
       try simp at hc48
       refine swp_seq fun K49 hK49 => ?_
       refine swp_region ty_ok ?_
       try simp (maxSteps := 1000000)
       repeat' (first | apply And.intro | intro _)
       any_goals (first | (refine hK49 _ ?_; clear hK49) | omega | (simp_all <;> omega))
       refine swp_ret ?_
       simp [fnPost, Try.results79, resP, tupOf]
       have hf := sg_fail (k := k) (j := j) (by omega) (by omega) (by assumption) (by assumption) rfl hc48
       rw [sgR_3 hmg he0 (by rw [hf]; exact hc48), hf]
       exact ⟨rfl, rfl, rfl⟩
      ·clear hC48
       try simp at hc48
       refine swp_skip ?_
       try simp only [thn, inBlk]
       refine hK46 _ ?_; clear hK46
       first | (have hE0 : r1E bs (rwS bs (RW l k) (gS bs l ga at_ k).p (gS bs l ga at_ k).a j).a ((RW l k)[j]?.getD 0) (rwS bs (RW l k) (gS bs l ga at_ k).p (gS bs l ga at_ k).a j).p = 0 := hc48; have hoN : o1N bs (rwS bs (RW l k) (gS bs l ga at_ k).p (gS bs l ga at_ k).a j).a ((RW l k)[j]?.getD 0) (rwS bs (RW l k) (gS bs l ga at_ k).p (gS bs l ga at_ k).a j).p = r1N bs (rwS bs (RW l k) (gS bs l ga at_ k).p (gS bs l ga at_ k).a j).a ((RW l k)[j]?.getD 0) (rwS bs (RW l k) (gS bs l ga at_ k).p (gS bs l ga at_ k).a j).p := if_pos hE0; have hoP : o1P bs (rwS bs (RW l k) (gS bs l ga at_ k).p (gS bs l ga at_ k).a j).a ((RW l k)[j]?.getD 0) (rwS bs (RW l k) (gS bs l ga at_ k).p (gS bs l ga at_ k).a j).p = r1P bs (rwS bs (RW l k) (gS bs l ga at_ k).p (gS bs l ga at_ k).a j).a ((RW l k)[j]?.getD 0) (rwS bs (RW l k) (gS bs l ga at_ k).p (gS bs l ga at_ k).a j).p := if_pos hE0; have hq : True := trivial) | (obtain ⟨hE0, hoN, hoP⟩ := r1_0 (b := bs) (a := (rwS bs (RW l k) (gS bs l ga at_ k).p (gS bs l ga at_ k).a j).a) (bk := ((RW l k)[j]?.getD 0)) (p := (rwS bs (RW l k) (gS bs l ga at_ k).p (gS bs l ga at_ k).a j).p) (show ((RW l k)[j]?.getD 0) = 0 by omega))
       refine swp_region ty_ok ?_
       refine runs_cut 2 fun R50 hR50 => ?_
       try simp (maxSteps := 1000000) [hoN, List.take_succ_cons, List.take_zero, List.drop_succ_cons, List.drop_zero]
       repeat' (first | apply And.intro | intro _)
       any_goals (first | (refine hR50 _ ?_; clear hR50) | omega | (simp_all <;> omega))
       refine runs_cut 1 fun R51 hR51 => ?_
       try simp (maxSteps := 1000000) [hoN, List.take_succ_cons, List.take_zero, List.drop_succ_cons, List.drop_zero]
       repeat' (first | apply And.intro | intro _)
       any_goals (first | (refine Or.inl (hR51 _ ?_); clear hR51) | omega | (simp_all <;> omega))
       try simp (maxSteps := 1000000) [hoN, List.take_succ_cons, List.take_zero, List.drop_succ_cons, List.drop_zero]
       repeat' (first | apply And.intro | intro _)
       any_goals (first | (refine hK26 _ ?_; clear hK26) | omega | (simp_all <;> omega))
       first | (have hbn : bdN (rwS bs (RW l k) (gS bs l ga at_ k).p (gS bs l ga at_ k).a j).a ((RW l k)[j]?.getD 0) (r1N bs (rwS bs (RW l k) (gS bs l ga at_ k).p (gS bs l ga at_ k).a j).a ((RW l k)[j]?.getD 0) (rwS bs (RW l k) (gS bs l ga at_ k).p (gS bs l ga at_ k).a j).p) = ((rwS bs (RW l k) (gS bs l ga at_ k).p (gS bs l ga at_ k).a j).a.1, (r1N bs (rwS bs (RW l k) (gS bs l ga at_ k).p (gS bs l ga at_ k).a j).a ((RW l k)[j]?.getD 0) (rwS bs (RW l k) (gS bs l ga at_ k).p (gS bs l ga at_ k).a j).p)) := (by rw [bdN_n0 (by omega), tkN_13 (by omega)])) | (have hbn : bdN (rwS bs (RW l k) (gS bs l ga at_ k).p (gS bs l ga at_ k).a j).a ((RW l k)[j]?.getD 0) (r1N bs (rwS bs (RW l k) (gS bs l ga at_ k).p (gS bs l ga at_ k).a j).a ((RW l k)[j]?.getD 0) (rwS bs (RW l k) (gS bs l ga at_ k).p (gS bs l ga at_ k).a j).p) = ((r1N bs (rwS bs (RW l k) (gS bs l ga at_ k).p (gS bs l ga at_ k).a j).a ((RW l k)[j]?.getD 0) (rwS bs (RW l k) (gS bs l ga at_ k).p (gS bs l ga at_ k).a j).p), (rwS bs (RW l k) (gS bs l ga at_ k).p (gS bs l ga at_ k).a j).a.2) := (by rw [bdN_n0 (by omega), tkN_n (by omega)])) | (have hbn : ∀ n, bdN (rwS bs (RW l k) (gS bs l ga at_ k).p (gS bs l ga at_ k).a j).a ((RW l k)[j]?.getD 0) n = (rwS bs (RW l k) (gS bs l ga at_ k).p (gS bs l ga at_ k).a j).a := fun n => bdN_00 (by omega))
       refine swp_region ty_ok ?_
       try simp (maxSteps := 1000000)
       repeat' apply And.intro
       any_goals (try omega)
       refine hL22 _ ⟨[(0, .ro (.ints .u8 bs)), (1, .int .i64 (rwS bs (RW l k) (gS bs l ga at_ k).p (gS bs l ga at_ k).a (j + 1)).p), (3, .ro (.rows 1 (l.map fun w => [.ro (.rows 2 (w.map Sc.row))]))), (11, .sl 0 0 k k), (12, .int .i64 (rwS bs (RW l k) (gS bs l ga at_ k).p (gS bs l ga at_ k).a (j + 1)).a.1), (13, .int .i64 (rwS bs (RW l k) (gS bs l ga at_ k).p (gS bs l ga at_ k).a (j + 1)).a.2), (14, .int .i64 (k : Nat)), (15, .ro (.ints .i64 (RW l k))), (16, .sl 1 0 (j + 1) (j + 1)), (17, .int .i64 ((j + 1) : Nat))], [(0, some ⟨.rows 1 ((gS bs l ga at_ k).rows.map fun w => [.ro (.ints .i64 w)]), false, 23⟩), (1, some ⟨.ints .i64 (rwS bs (RW l k) (gS bs l ga at_ k).p (gS bs l ga at_ k).a (j + 1)).vs, false, 3⟩)], 2⟩ _ ?_ ⟨(j + 1), by omega, by (rw [rwE, if_pos (by assumption)]; exact hE0), rfl, rfl⟩ ⟨by (simp [getT, PV.lo, lo1, hjw, rwS, hbn, hoN, hoP, hrl]; try omega), by simp [getH, Blk.lo, Cells.lo, lo1, rwS, hoN], rfl, by omega⟩
       omega
     ·clear hC42
      try simp at hc42
      refine swp_skip ?_
      try simp only [thn, inBlk]
      refine hK29 _ ?_; clear hK29
      refine swp_seq fun K52 hK52 => ?_
      refine swp_seq fun K53 hK53 => ?_
      refine swp_region ty_ok ?_
      try simp (maxSteps := 1000000)
      repeat' (first | apply And.intro | intro _)
      any_goals (first | (refine hK53 _ ?_; clear hK53) | omega | (simp_all <;> omega))
      refine swp_if fun C54 hC54 => ?_
      try simp (maxSteps := 1000000)
      refine hC54 _ (fun hc54 => ?_) (fun hc54 => ?_)
      ·exact absurd hc54 (by simp)
      ·clear hC54
       try simp at hc54
       refine swp_skip ?_
       try simp only [thn, inBlk]
       refine hK52 _ ?_; clear hK52
       first | (have hE0 : r1E bs (rwS bs (RW l k) (gS bs l ga at_ k).p (gS bs l ga at_ k).a j).a ((RW l k)[j]?.getD 0) (rwS bs (RW l k) (gS bs l ga at_ k).p (gS bs l ga at_ k).a j).p = 0 := hc54; have hoN : o1N bs (rwS bs (RW l k) (gS bs l ga at_ k).p (gS bs l ga at_ k).a j).a ((RW l k)[j]?.getD 0) (rwS bs (RW l k) (gS bs l ga at_ k).p (gS bs l ga at_ k).a j).p = r1N bs (rwS bs (RW l k) (gS bs l ga at_ k).p (gS bs l ga at_ k).a j).a ((RW l k)[j]?.getD 0) (rwS bs (RW l k) (gS bs l ga at_ k).p (gS bs l ga at_ k).a j).p := if_pos hE0; have hoP : o1P bs (rwS bs (RW l k) (gS bs l ga at_ k).p (gS bs l ga at_ k).a j).a ((RW l k)[j]?.getD 0) (rwS bs (RW l k) (gS bs l ga at_ k).p (gS bs l ga at_ k).a j).p = r1P bs (rwS bs (RW l k) (gS bs l ga at_ k).p (gS bs l ga at_ k).a j).a ((RW l k)[j]?.getD 0) (rwS bs (RW l k) (gS bs l ga at_ k).p (gS bs l ga at_ k).a j).p := if_pos hE0; have hq : True := trivial) | (obtain ⟨hE0, hoN, hoP⟩ := r1_0 (b := bs) (a := (rwS bs (RW l k) (gS bs l ga at_ k).p (gS bs l ga at_ k).a j).a) (bk := ((RW l k)[j]?.getD 0)) (p := (rwS bs (RW l k) (gS bs l ga at_ k).p (gS bs l ga at_ k).a j).p) (show ((RW l k)[j]?.getD 0) = 0 by omega))
       refine swp_region ty_ok ?_
       refine runs_cut 2 fun R55 hR55 => ?_
       try simp (maxSteps := 1000000) [hoN, List.take_succ_cons, List.take_zero, List.drop_succ_cons, List.drop_zero]
       repeat' (first | apply And.intro | intro _)
       any_goals (first | (refine hR55 _ ?_; clear hR55) | omega | (simp_all <;> omega))
       refine runs_cut 1 fun R56 hR56 => ?_
       try simp (maxSteps := 1000000) [hoN, List.take_succ_cons, List.take_zero, List.drop_succ_cons, List.drop_zero]
       repeat' (first | apply And.intro | intro _)
       any_goals (first | (refine Or.inl (hR56 _ ?_); clear hR56) | omega | (simp_all <;> omega))
       try simp (maxSteps := 1000000) [hoN, List.take_succ_cons, List.take_zero, List.drop_succ_cons, List.drop_zero]
       repeat' (first | apply And.intro | intro _)
       any_goals (first | (refine hK26 _ ?_; clear hK26) | omega | (simp_all <;> omega))
       first | (have hbn : bdN (rwS bs (RW l k) (gS bs l ga at_ k).p (gS bs l ga at_ k).a j).a ((RW l k)[j]?.getD 0) (r1N bs (rwS bs (RW l k) (gS bs l ga at_ k).p (gS bs l ga at_ k).a j).a ((RW l k)[j]?.getD 0) (rwS bs (RW l k) (gS bs l ga at_ k).p (gS bs l ga at_ k).a j).p) = ((rwS bs (RW l k) (gS bs l ga at_ k).p (gS bs l ga at_ k).a j).a.1, (r1N bs (rwS bs (RW l k) (gS bs l ga at_ k).p (gS bs l ga at_ k).a j).a ((RW l k)[j]?.getD 0) (rwS bs (RW l k) (gS bs l ga at_ k).p (gS bs l ga at_ k).a j).p)) := (by rw [bdN_n0 (by omega), tkN_13 (by omega)])) | (have hbn : bdN (rwS bs (RW l k) (gS bs l ga at_ k).p (gS bs l ga at_ k).a j).a ((RW l k)[j]?.getD 0) (r1N bs (rwS bs (RW l k) (gS bs l ga at_ k).p (gS bs l ga at_ k).a j).a ((RW l k)[j]?.getD 0) (rwS bs (RW l k) (gS bs l ga at_ k).p (gS bs l ga at_ k).a j).p) = ((r1N bs (rwS bs (RW l k) (gS bs l ga at_ k).p (gS bs l ga at_ k).a j).a ((RW l k)[j]?.getD 0) (rwS bs (RW l k) (gS bs l ga at_ k).p (gS bs l ga at_ k).a j).p), (rwS bs (RW l k) (gS bs l ga at_ k).p (gS bs l ga at_ k).a j).a.2) := (by rw [bdN_n0 (by omega), tkN_n (by omega)])) | (have hbn : ∀ n, bdN (rwS bs (RW l k) (gS bs l ga at_ k).p (gS bs l ga at_ k).a j).a ((RW l k)[j]?.getD 0) n = (rwS bs (RW l k) (gS bs l ga at_ k).p (gS bs l ga at_ k).a j).a := fun n => bdN_00 (by omega))
       refine swp_region ty_ok ?_
       try simp (maxSteps := 1000000)
       repeat' apply And.intro
       any_goals (try omega)
       refine hL22 _ ⟨[(0, .ro (.ints .u8 bs)), (1, .int .i64 (rwS bs (RW l k) (gS bs l ga at_ k).p (gS bs l ga at_ k).a (j + 1)).p), (3, .ro (.rows 1 (l.map fun w => [.ro (.rows 2 (w.map Sc.row))]))), (11, .sl 0 0 k k), (12, .int .i64 (rwS bs (RW l k) (gS bs l ga at_ k).p (gS bs l ga at_ k).a (j + 1)).a.1), (13, .int .i64 (rwS bs (RW l k) (gS bs l ga at_ k).p (gS bs l ga at_ k).a (j + 1)).a.2), (14, .int .i64 (k : Nat)), (15, .ro (.ints .i64 (RW l k))), (16, .sl 1 0 (j + 1) (j + 1)), (17, .int .i64 ((j + 1) : Nat))], [(0, some ⟨.rows 1 ((gS bs l ga at_ k).rows.map fun w => [.ro (.ints .i64 w)]), false, 23⟩), (1, some ⟨.ints .i64 (rwS bs (RW l k) (gS bs l ga at_ k).p (gS bs l ga at_ k).a (j + 1)).vs, false, 3⟩)], 2⟩ _ ?_ ⟨(j + 1), by omega, by (rw [rwE, if_pos (by assumption)]; exact hE0), rfl, rfl⟩ ⟨by (simp [getT, PV.lo, lo1, hjw, rwS, hbn, hoN, hoP, hrl]; try omega), by simp [getH, Blk.lo, Cells.lo, lo1, rwS, hoN], rfl, by omega⟩
       omega
   ·clear hC25
    try simp at hc25
    refine swp_exit ?_
    simp [thn, inBlk]
    refine hK20 _ ?_; clear hK20
    refine swp_region ty_ok ?_
    refine runs_cut 2 fun R57 hR57 => ?_
    try simp (maxSteps := 1000000) [List.take_succ_cons, List.take_zero, List.drop_succ_cons, List.drop_zero]
    repeat' (first | apply And.intro | intro _)
    any_goals (first | (refine hR57 _ ?_; clear hR57) | omega | (simp_all <;> omega))
    refine runs_cut 1 fun R58 hR58 => ?_
    try simp (maxSteps := 1000000) [List.take_succ_cons, List.take_zero, List.drop_succ_cons, List.drop_zero]
    repeat' (first | apply And.intro | intro _)
    any_goals (first | (refine Or.inl (hR58 _ ?_); clear hR58) | omega | (simp_all <;> omega))
    try simp (maxSteps := 1000000) [List.take_succ_cons, List.take_zero, List.drop_succ_cons, List.drop_zero]
    repeat' (first | apply And.intro | intro _)
    any_goals (first | (refine hK15 _ ?_; clear hK15) | omega | (simp_all <;> omega))
    refine swp_region ty_ok ?_
    try simp (maxSteps := 1000000)
    repeat' apply And.intro
    any_goals (try omega)
    refine hL11 _ ⟨[(0, .ro (.ints .u8 bs)), (1, .int .i64 (gS bs l ga at_ (k + 1)).p), (3, .ro (.rows 1 (l.map fun w => [.ro (.rows 2 (w.map Sc.row))]))), (11, .sl 0 0 (k + 1) (k + 1)), (12, .int .i64 (gS bs l ga at_ (k + 1)).a.1), (13, .int .i64 (gS bs l ga at_ (k + 1)).a.2), (14, .int .i64 ((k + 1) : Nat))], [(0, some ⟨.rows 1 ((gS bs l ga at_ (k + 1)).rows.map fun w => [.ro (.ints .i64 w)]), false, 23⟩)], 1⟩ _ ?_ ⟨(k + 1), by omega, by (rw [gE, if_pos (by assumption), show (RW l k).length = j by omega]; assumption), rfl, rfl⟩ ⟨by (have hje : j = (RW l k).length := (by omega); subst hje; simp [getT, PV.lo, lo1, hkw, gS, hGl]), by (have hje : j = (RW l k).length := (by omega); subst hje; simp [getH, Blk.lo, Cells.lo, lo1, gS]), rfl, by omega⟩
    omega
  ·clear hC14
   try simp at hc14
   refine swp_exit ?_
   simp [thn, inBlk]
   refine hK9 _ ?_; clear hK9
   refine swp_seq fun K59 hK59 => ?_
   refine swp_region ty_ok ?_
   try simp (maxSteps := 1000000)
   repeat' (first | apply And.intro | intro _)
   any_goals (first | (refine hK59 _ ?_; clear hK59) | omega | (simp_all <;> omega))
   refine swp_ret ?_
   simp [fnPost, Try.results79, resP, tupOf]
   have hke : k = l.length := (by omega)
   subst hke
   rw [sgR_4 hmg he0 (by assumption)]
   exact ⟨gS_len _ _ _ _ _, rfl, rfl, rfl⟩

theorem rget20_ok (bs : List Int) (at_ ga : Int) (l : List (List Sc)) (hm : bs.length ≤ 1000000) (hp : ∀ y ∈ bs, 0 ≤ y ∧ y ≤ 255) (hat : -9223372036854775808 ≤ at_ ∧ at_ ≤ 9223372036854775807) (hl : l.length ≤ 1000000) (hw : ∀ w ∈ l, w.length ≤ 1000000) : PCall Try.prog 38 [.ro (.ints .u8 bs), .int .i64 at_, .int .i64 ga, .ro (.rows 1 (l.map fun w => [.ro (.rows 2 (w.map Sc.row))]))] (.tup [.ro (.rows 1 ((sgR bs at_ ga l).1.map fun w => [.ro (.ints .i64 w)])), .int .i64 (sgR bs at_ ga l).2.1, .int .i64 (sgR bs at_ ga l).2.2]) := by
 refine pcall_body ty_ok Try.func38 rfl (by rfl) (by simp) ?_
 rw [Try.ntmps38]
 refine swp_seq fun K1 hK1 => ?_
 refine swp_region ty_ok ?_
 try simp (maxSteps := 1000000)
 repeat' (first | apply And.intro | intro _)
 any_goals (first | (refine hK1 _ ?_; clear hK1) | omega | (simp_all <;> omega))
 refine swp_seq fun K2 hK2 => ?_
 refine swp_seq fun K3 hK3 => ?_
 refine swp_region ty_ok ?_
 refine runs_cut 2 fun R4 hR4 => ?_
 try simp (maxSteps := 1000000) [List.take_succ_cons, List.take_zero, List.drop_succ_cons, List.drop_zero]
 repeat' (first | apply And.intro | intro _)
 any_goals (first | (refine hR4 _ ?_; clear hR4) | omega | (simp_all <;> omega))
 refine runs_cut 1 fun R5 hR5 => ?_
 try simp (maxSteps := 1000000) [List.take_succ_cons, List.take_zero, List.drop_succ_cons, List.drop_zero]
 refine .inl ⟨_, rmay20_ok ga l hl hw, ?_⟩
 try simp (maxSteps := 1000000)
 repeat' (first | apply And.intro | intro _)
 any_goals (first | (refine hR5 _ ?_; clear hR5) | omega | (simp_all <;> omega))
 try simp (maxSteps := 1000000) [List.take_succ_cons, List.take_zero, List.drop_succ_cons, List.drop_zero]
 repeat' (first | apply And.intro | intro _)
 any_goals (first | (refine hK3 _ ?_; clear hK3) | omega | (simp_all <;> omega))
 refine swp_if fun C6 hC6 => ?_
 try simp (maxSteps := 1000000)
 refine hC6 _ (fun hc6 => ?_) (fun hc6 => ?_)
 ·clear hC6
  try simp at hc6
  refine swp_seq fun K7 hK7 => ?_
  refine swp_region ty_ok ?_
  try simp (maxSteps := 1000000)
  repeat' (first | apply And.intro | intro _)
  any_goals (first | (refine hK7 _ ?_; clear hK7) | omega | (simp_all <;> omega))
  refine swp_ret ?_
  simp [fnPost, Try.results38, resP, tupOf]
  have hmg : mayG ga l = false := by have h := hc6; simpa using h
  rw [sgR_1 hmg]
  exact ⟨rfl, rfl, rfl⟩
 ·clear hC6
  try simp at hc6
  refine swp_skip ?_
  try simp only [thn, inBlk]
  refine hK2 _ ?_; clear hK2
  refine swp_seq fun K8 hK8 => ?_
  have hmg : mayG ga l = true := by have h := hc6; simpa using h
  refine swp_region ty_ok ?_
  refine runs_cut 4 fun R9 hR9 => ?_
  try simp (maxSteps := 1000000) [List.take_succ_cons, List.take_zero, List.drop_succ_cons, List.drop_zero]
  repeat' (first | apply And.intro | intro _)
  any_goals (first | (refine hR9 _ ?_; clear hR9) | omega | (simp_all <;> omega))
  refine runs_cut 1 fun R10 hR10 => ?_
  try simp (maxSteps := 1000000) [List.take_succ_cons, List.take_zero, List.drop_succ_cons, List.drop_zero]
  refine .inl ⟨_, read20_ok bs at_ ga l hm hp hat hmg, ?_⟩
  try simp (maxSteps := 1000000)
  repeat' (first | apply And.intro | intro _)
  any_goals (first | (refine hR10 _ ?_; clear hR10) | omega | (simp_all <;> omega))
  try simp (maxSteps := 1000000) [List.take_succ_cons, List.take_zero, List.drop_succ_cons, List.drop_zero]
  repeat' (first | apply And.intro | intro _)
  any_goals (first | (refine hK8 _ ?_; clear hK8) | omega | (simp_all <;> omega))
  refine swp_ret ?_
  simp [fnPost, Try.results38, resP, tupOf]

end Go.Proofs.Ytgheplondkoedaa

