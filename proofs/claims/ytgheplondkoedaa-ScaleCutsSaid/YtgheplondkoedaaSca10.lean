import Derived.Test.YtgheplondkoedaaWf
import Derived.Test.YtgheplondkoedaaTyh
import Derived.Test.YtgheplondkoedaaHbits
import Derived.Test.YtgheplondkoedaaHbits2
import Derived.Test.YtgheplondkoedaaHsrt
import Derived.Test.YtgheplondkoedaaHbk
import Derived.Test.YtgheplondkoedaaHst
import Derived.Test.YtgheplondkoedaaHbk5
import Derived.Test.YtgheplondkoedaaHbk9
import Derived.Test.YtgheplondkoedaaSca
import Derived.Test.YtgheplondkoedaaSca2
import Derived.Test.YtgheplondkoedaaSca3
import Derived.Test.YtgheplondkoedaaSca4
import Derived.Test.YtgheplondkoedaaSca5
import Derived.Test.YtgheplondkoedaaSca6
import Derived.Test.YtgheplondkoedaaSca7
import Derived.Test.YtgheplondkoedaaSca8
import Derived.Test.YtgheplondkoedaaSca9
namespace Go.Proofs.Ytgheplondkoedaa
set_option linter.unusedVariables false
set_option linter.unusedSimpArgs false
set_option maxRecDepth 10000
open Go Go.Pv

open Go.RowKit
def cutW (w : List Sc) : List Sc := (bkR w).map fun b => ⟨b, 1⟩
def cutR (l : List (List Sc)) (k : Nat) : List (List PV) := ((l.take k).map cutW).map fun w => [PV.ro (.rows 2 (w.map Sc.row))]
theorem cutR_0 (l : List (List Sc)) : cutR l 0 = [] := by simp [cutR]
theorem cutR_len {l : List (List Sc)} {k : Nat} (h : k ≤ l.length) : (cutR l k).length = k := by simp [cutR]; omega
theorem cutR_succ {l : List (List Sc)} {k : Nat} (h : k < l.length) : cutR l (k + 1) = cutR l k ++ [[PV.ro (.rows 2 ((cutW (l[k]?.getD [])).map Sc.row))]] := by
 unfold cutR
 rw [List.take_succ_eq_append_getElem h, List.getElem?_eq_getElem h, List.map_append, List.map_append]
 rfl
theorem cutR_all (l : List (List Sc)) : cutR l l.length = (l.map cutW).map fun w => [PV.ro (.rows 2 (w.map Sc.row))] := by rw [cutR, List.take_length]
theorem bk_cut (w : List Sc) : bkR (cutW w) = bkR w := by
 unfold cutW
 generalize bkR w = bs
 induction bs with
 | nil => rfl
 | cons b bs ih =>
  have h : bkR ((b :: bs).map fun b => (⟨b, 1⟩ : Sc)) = b :: bkR (bs.map fun b => (⟨b, 1⟩ : Sc)) := by simp [bkR]
  rw [h, ih]
theorem cutW_len (w : List Sc) : (cutW w).length = (bkR w).length := by simp [cutW]
theorem cutW_succ {w : List Sc} {i : Nat} (h : i < w.length) : cutW (w.take (i + 1)) = cutW (w.take i) ++ List.replicate (w[i]?.getD default).len.toNat ⟨(w[i]?.getD default).book, 1⟩ := by
 unfold cutW
 rw [bkR_succ h, List.map_append, List.map_replicate]
theorem RW_cut (l : List (List Sc)) (k : Nat) : RW (l.map cutW) k = RW l k := by
 unfold RW
 rw [List.getElem?_map]
 cases h : l[k]? with
 | none => rfl
 | some w => exact bk_cut w
theorem gN_cut (l : List (List Sc)) (st : List (List Int)) (ga : Int) : ∀ k, gN (l.map cutW) st ga k = gN l st ga k
 | 0 => rfl
 | k + 1 => by rw [gN, gN, gN_cut l st ga k, RW_cut]
theorem gB_cut (l : List (List Sc)) (st : List (List Int)) (ga : Int) : ∀ k, gB (l.map cutW) st ga k = gB l st ga k
 | 0 => rfl
 | k + 1 => by rw [gB, gB, gB_cut l st ga k, gN_cut, RW_cut]
theorem oG_cut (l : List (List Sc)) (st : List (List Int)) (ga : Int) : ∀ k, oG (l.map cutW) st ga k = oG l st ga k
 | 0 => rfl
 | k + 1 => by rw [oG, oG, oG_cut l st ga k, gN_cut, RW_cut]
theorem grp_cut {w : List Sc} (h : grpB w = true) : grpB (cutW w) = true := by
 obtain ⟨h1, h2, h3⟩ := grp_true h
 have hl := bkR_len h1
 have hm := bkR_mem h1
 unfold grpB
 rw [Bool.and_eq_true]
 constructor
 ·rw [Bool.not_eq_true', ← Bool.not_eq_true]
  intro ha
  rw [List.any_eq_true] at ha
  obtain ⟨x, hx, hb⟩ := ha
  unfold cutW at hx
  rw [List.mem_map] at hx
  obtain ⟨b, hb2, rfl⟩ := hx
  have := hm b hb2
  simp [badS] at hb
  omega
 ·rw [decide_eq_true_eq]
  have : ((cutW w).map Sc.len).sum = ((bkR w).length : Int) := by
   unfold cutW
   generalize bkR w = bs
   induction bs with
   | nil => rfl
   | cons b bs ih => simp at ih ⊢; omega
  omega
theorem may_cut {ga : Int} {l : List (List Sc)} (h : mayG ga l = true) : mayG ga (l.map cutW) = true := by
 unfold mayG at h ⊢
 rw [Bool.and_eq_true] at h ⊢
 refine ⟨by rw [List.length_map]; exact h.1, ?_⟩
 rw [List.all_eq_true]
 intro w hw
 rw [List.mem_map] at hw
 obtain ⟨v, hv, rfl⟩ := hw
 exact grp_cut (List.all_eq_true.1 h.2 v hv)
theorem ch_cut {ga : Int} {l : List (List Sc)} {st : List (List Int)} (h : chS ga l st = 0) : chS ga (l.map cutW) st = 0 := by
 obtain ⟨h1, h2, h3⟩ := chS_ok h
 exact chS_0 ⟨may_cut h1, by rw [List.length_map]; exact h2, by rw [List.length_map, oG_cut]; exact h3⟩
theorem bkR_le {w : List Sc} (k : Nat) (h : ∀ x ∈ w, badS x = false) : (bkR (w.take k)).length ≤ (bkR w).length := by
 have : bkR w = bkR (w.take k) ++ bkR (w.drop k) := by
  unfold bkR
  rw [← List.flatMap_append, List.take_append_drop]
 rw [this, List.length_append]
 omega
theorem cut_bd {l : List (List Sc)} (h : ∀ w ∈ l, (∀ x ∈ w, badS x = false) ∧ (w.map Sc.len).sum ≤ 40 ∧ w.length ≤ 40) : ∀ w ∈ l.map cutW, w.length ≤ 40 := fun w hw => by
 rw [List.mem_map] at hw
 obtain ⟨v, hv, rfl⟩ := hw
 obtain ⟨h1, h2, h3⟩ := h v hv
 have := bkR_len h1
 rw [cutW_len]
 omega

attribute [local simp] runs gd step1 need evu un opnds opv ev cst cst1 cstL getT getH putT onL nxt argT cellsOf PV.one thn inBlk jmp fldP ldP ldC live Cells.len Cells.get Cells.w sug ldv bin eqF eq1 ops2 sh2 binv Tk.agg stC apC rdS apS cpC cpS mvL zp argsP idx fillP toInts chunks mkC ixS ixA oidx slP sl0 slA optL List.append mxF bltn frzA frz frzL frz1 pur1 Cells.pur PV.scal scal1 runD rdO PV.ids id1 zids ety Eff.on cnd minb and1b ifmax ifmin mxv sugI strv w0 w1 w2 wm1
set_option maxHeartbeats 8000000 in
theorem scaleCuts_ok (ga : Int) (l : List (List Sc)) (st : List (List Int))  : PCall Try.prog 5 [.int .i64 ga, .ro (.rows 1 (l.map fun w => [.ro (.rows 2 (w.map Sc.row))])), .ro (.rows 1 (st.map fun w => [.ro (.ints .i64 w)]))] (.bool true) := by
 refine pcall_body ty_ok Try.func5 rfl (by rfl) (by simp) ?_
 rw [Try.ntmps5]
 refine swp_seq fun K1 hK1 => ?_
 refine swp_region ty_ok ?_
 try simp (maxSteps := 1000000)
 repeat' (first | apply And.intro | intro _)
 any_goals (first | (refine hK1 _ ?_; clear hK1) | omega | (simp_all <;> omega))
 refine swp_seq fun K2 hK2 => ?_
 refine swp_region ty_ok ?_
 refine runs_cut 1 fun R3 hR3 => ?_
 try simp (maxSteps := 1000000) [List.take_succ_cons, List.take_zero, List.drop_succ_cons, List.drop_zero]
 refine .inl ⟨_, alive20, ?_⟩
 try simp (maxSteps := 1000000)
 repeat' (first | apply And.intro | intro _)
 any_goals (first | (refine hR3 _ ?_; clear hR3) | omega | (simp_all <;> omega))
 try simp (maxSteps := 1000000) [List.take_succ_cons, List.take_zero, List.drop_succ_cons, List.drop_zero]
 repeat' (first | apply And.intro | intro _)
 any_goals (first | (refine hK2 _ ?_; clear hK2) | omega | (simp_all <;> omega))
 refine swp_seq fun K4 hK4 => ?_
 refine swp_seq fun K5 hK5 => ?_
 refine swp_region ty_ok ?_
 refine runs_cut 1 fun R6 hR6 => ?_
 try simp (maxSteps := 1000000) [List.take_succ_cons, List.take_zero, List.drop_succ_cons, List.drop_zero]
 repeat' (first | apply And.intro | intro _)
 any_goals (first | (refine hR6 _ ?_; clear hR6) | omega | (simp_all <;> omega))
 refine runs_cut 1 fun R7 hR7 => ?_
 try simp (maxSteps := 1000000) [List.take_succ_cons, List.take_zero, List.drop_succ_cons, List.drop_zero]
 refine .inl ⟨_, great19_ok l, ?_⟩
 try simp (maxSteps := 1000000)
 repeat' (first | apply And.intro | intro _)
 any_goals (first | (refine hR7 _ ?_; clear hR7) | omega | (simp_all <;> omega))
 refine runs_cut 2 fun R8 hR8 => ?_
 try simp (maxSteps := 1000000) [List.take_succ_cons, List.take_zero, List.drop_succ_cons, List.drop_zero]
 repeat' (first | apply And.intro | intro _)
 any_goals (first | (refine hR8 _ ?_; clear hR8) | omega | (simp_all <;> omega))
 refine runs_cut 1 fun R9 hR9 => ?_
 try simp (maxSteps := 1000000) [List.take_succ_cons, List.take_zero, List.drop_succ_cons, List.drop_zero]
 first | refine .inl ⟨_, fun hb => .inl ⟨great20_ok st, rfl⟩, ?_⟩ | refine .inl ⟨_, .inl ⟨great20_ok st, rfl⟩, ?_⟩ | refine .inl ⟨_, fun hb => .inl (great20_ok st), ?_⟩ | refine .inl ⟨_, .inl (great20_ok st), ?_⟩ | refine .inl ⟨_, by (intros; exact Or.inl (great20_ok st)), ?_⟩ | refine .inl ⟨_, by (intros; exact Or.inl ⟨great20_ok st, rfl⟩), ?_⟩ | refine .inl ⟨_, fun hb => .inl ⟨_, great20_ok st, by (try simp); exact ⟨rfl, rfl⟩⟩, ?_⟩ | refine ⟨_, fun hb => .inl ⟨great20_ok st, rfl⟩, ?_⟩ | refine ⟨_, .inl ⟨great20_ok st, rfl⟩, ?_⟩ | refine ⟨_, fun hb => .inl (great20_ok st), ?_⟩ | refine ⟨_, .inl (great20_ok st), ?_⟩ | refine ⟨_, by (intros; exact Or.inl (great20_ok st)), ?_⟩ | refine ⟨_, by (intros; exact Or.inl ⟨great20_ok st, rfl⟩), ?_⟩ | refine ⟨_, fun hb => .inl ⟨_, great20_ok st, by (try simp); exact ⟨rfl, rfl⟩⟩, ?_⟩
 repeat' (first | apply And.intro | intro _)
 any_goals (first | (refine hR9 _ ?_; clear hR9) | omega | (simp_all <;> omega))
 try simp (maxSteps := 1000000) [List.take_succ_cons, List.take_zero, List.drop_succ_cons, List.drop_zero]
 repeat' (first | apply And.intro | intro _)
 any_goals (first | (refine hK5 _ ?_; clear hK5) | omega | (simp_all <;> omega))
 refine swp_if fun C10 hC10 => ?_
 try simp (maxSteps := 1000000)
 refine hC10 _ (fun hc10 => ?_) (fun hc10 => ?_)
 ·clear hC10
  try simp at hc10
  refine swp_seq fun K11 hK11 => ?_
  refine swp_region ty_ok ?_
  try simp (maxSteps := 1000000)
  repeat' (first | apply And.intro | intro _)
  any_goals (first | (refine hK11 _ ?_; clear hK11) | omega | (simp_all <;> omega))
  refine swp_ret ?_
  simp [fnPost, Try.results5, resP, tupOf]
 ·clear hC10
  try simp at hc10
  refine swp_skip ?_
  try simp only [thn, inBlk]
  refine hK4 _ ?_; clear hK4
  refine swp_seq fun K12 hK12 => ?_
  have hcc := hc10
  obtain ⟨hl1, hlw⟩ := grt_no (l := l) (by first | exact hcc.1 | simpa using hcc.1)
  obtain ⟨hs1, hsw⟩ := grtI_no (l := st) (by first | exact hcc.2 | simpa using hcc.2)
  have hA := put20_ok [] ga l st (by simp) (by omega) (fun w hw => by have := hlw w hw; omega) (by omega) (fun w hw => by have := hsw w hw; omega)
  refine swp_region ty_ok ?_
  refine runs_cut 3 fun R13 hR13 => ?_
  try simp (maxSteps := 1000000) [List.take_succ_cons, List.take_zero, List.drop_succ_cons, List.drop_zero]
  repeat' (first | apply And.intro | intro _)
  any_goals (first | (refine hR13 _ ?_; clear hR13) | omega | (simp_all <;> omega))
  refine runs_cut 1 fun R14 hR14 => ?_
  try simp (maxSteps := 1000000) [List.take_succ_cons, List.take_zero, List.drop_succ_cons, List.drop_zero]
  refine .inl ⟨_, hA, ?_⟩
  try simp (maxSteps := 1000000)
  repeat' (first | apply And.intro | intro _)
  any_goals (first | (refine hR14 _ ?_; clear hR14) | omega | (simp_all <;> omega))
  try simp (maxSteps := 1000000) [List.take_succ_cons, List.take_zero, List.drop_succ_cons, List.drop_zero]
  repeat' (first | apply And.intro | intro _)
  any_goals (first | (refine hK12 _ ?_; clear hK12) | omega | (simp_all <;> omega))
  refine swp_seq fun K15 hK15 => ?_
  refine swp_seq fun K16 hK16 => ?_
  refine swp_region ty_ok ?_
  try simp (maxSteps := 1000000)
  repeat' (first | apply And.intro | intro _)
  any_goals (first | (refine hK16 _ ?_; clear hK16) | omega | (simp_all <;> omega))
  refine swp_if fun C17 hC17 => ?_
  try simp (maxSteps := 1000000)
  refine hC17 _ (fun hc17 => ?_) (fun hc17 => ?_)
  ·clear hC17
   try simp at hc17
   refine swp_seq fun K18 hK18 => ?_
   have hne := hc17
   rw [if_neg hne]
   refine swp_region ty_ok ?_
   try simp (maxSteps := 1000000)
   repeat' (first | apply And.intro | intro _)
   any_goals (first | (refine hK18 _ ?_; clear hK18) | omega | (simp_all <;> omega))
   refine swp_ret ?_
   simp [fnPost, Try.results5, resP, tupOf]
  ·clear hC17
   try simp at hc17
   refine swp_skip ?_
   try simp only [thn, inBlk]
   refine hK15 _ ?_; clear hK15
   refine swp_seq fun K19 hK19 => ?_
   have hc0 : chS ga l st = 0 := (by have h := hc17; simpa using h)
   obtain ⟨c1, c2, c3⟩ := chS_ok (by assumption : chS ga l st = 0)
   obtain ⟨c4, c5⟩ := mayG_true c1
   have hal := gB_len (RW_40 c5) l.length c3
   have hcl : (l.map cutW).length = l.length := List.length_map ..
   have hcb := cut_bd c5
   have hB := put20_ok [] ga (l.map cutW) st (by simp) (by omega) (fun w hw => by have := hcb w hw; omega) (by omega) (fun w hw => by have := hsw w hw; omega)
   rw [if_pos (ch_cut hc0), ch_cut hc0, hcl, gB_cut] at hB
   rw [if_pos hc0]
   rw [List.nil_append, List.map_map] at hB
   obtain ⟨C, hC⟩ : ∃ C, gB l st ga l.length = C := ⟨_, rfl⟩
   rw [hC] at hB
   simp only [List.nil_append, hC]
   refine swp_region ty_ok ?_
   try simp (maxSteps := 1000000)
   repeat' (first | apply And.intro | intro _)
   any_goals (first | (refine hK19 _ ?_; clear hK19) | omega | (simp_all <;> omega))
   refine swp_seq fun K20 hK20 => ?_
   refine swp_seq fun K21 hK21 => ?_
   refine swp_region ty_ok ?_
   try simp (maxSteps := 1000000)
   repeat' (first | apply And.intro | intro _)
   any_goals (first | (refine hK21 _ ?_; clear hK21) | omega | (simp_all <;> omega))
   refine swp_block ?_
   refine swp_own 10 61 (by simp [getT]; rfl) rfl ?_
   refine swp_loop 1 (fun m_ s_ => ∃ (k : Nat), (k ≤ l.length) ∧ s_ = ⟨[(0, .int .i64 ga), (1, .ro (.rows 1 (l.map fun w => [.ro (.rows 2 (w.map Sc.row))]))), (2, .ro (.rows 1 (st.map fun w => [.ro (.ints .i64 w)]))), (8, .ro (.ints .u8 C)), (10, .sl 0 0 k k), (11, .int .i64 (k : Nat))], [(0, some ⟨.rows 1 (cutR l k), false, 61⟩)], 1⟩ ∧ m_ = l.length - k) _ ⟨[(0, .int .i64 ga), (1, .ro (.rows 1 (l.map fun w => [.ro (.rows 2 (w.map Sc.row))]))), (2, .ro (.rows 1 (st.map fun w => [.ro (.ints .i64 w)]))), (8, .ro (.ints .u8 C)), (10, .sl 0 0 0 0), (11, .int .i64 (0 : Nat))], [(0, some ⟨.rows 1 (cutR l 0), false, 61⟩)], 1⟩ ⟨by simp [getT, PV.lo, lo1], by simp [getH, Blk.lo, Cells.lo, lo1, cutR_0], rfl, by omega⟩ ⟨(0), by omega, rfl, rfl⟩ ?_
   rintro m_ s_ ⟨k, hL22_0, rfl, rfl⟩ KL22 hL22
   have hkw := wnext (i := k) (by omega)
   have hcr := cutR_len (l := l) (k := k) (by omega)
   refine swp_seq fun K23 hK23 => ?_
   refine swp_seq fun K24 hK24 => ?_
   refine swp_region ty_ok ?_
   try simp (maxSteps := 1000000)
   repeat' (first | apply And.intro | intro _)
   any_goals (first | (refine hK24 _ ?_; clear hK24) | omega | (simp_all <;> omega))
   refine swp_if fun C25 hC25 => ?_
   try simp (maxSteps := 1000000)
   refine hC25 _ (fun hc25 => ?_) (fun hc25 => ?_)
   ·clear hC25
    try simp at hc25
    refine swp_skip ?_
    try simp only [thn, inBlk]
    refine hK23 _ ?_; clear hK23
    refine swp_seq fun K26 hK26 => ?_
    refine swp_block ?_
    refine swp_seq fun K27 hK27 => ?_
    have hrowS := s_at (l := l) (k := k) (by omega)
    obtain ⟨hR1, hR2, hR3, hR4⟩ := RW_F (k := k) (by omega) c5
    have hRe : RW l k = bkR (l[k]?.getD []) := rfl
    rw [hRe] at hR1
    refine swp_region ty_ok ?_
    try simp (maxSteps := 1000000)
    repeat' (first | apply And.intro | intro _)
    any_goals (first | (refine hK27 _ ?_; clear hK27) | omega | (simp_all <;> omega))
    refine swp_seq fun K28 hK28 => ?_
    refine swp_seq fun K29 hK29 => ?_
    refine swp_region ty_ok ?_
    try simp (maxSteps := 1000000)
    repeat' (first | apply And.intro | intro _)
    any_goals (first | (refine hK29 _ ?_; clear hK29) | omega | (simp_all <;> omega))
    refine swp_block ?_
    refine swp_own 12 63 (by simp [getT]; rfl) rfl ?_
    refine swp_loop 2 (fun m_ s_ => ∃ (j : Nat), (j ≤ (l[k]?.getD []).length) ∧ s_ = ⟨[(0, .int .i64 ga), (1, .ro (.rows 1 (l.map fun w => [.ro (.rows 2 (w.map Sc.row))]))), (2, .ro (.rows 1 (st.map fun w => [.ro (.ints .i64 w)]))), (8, .ro (.ints .u8 C)), (10, .sl 0 0 k k), (11, .int .i64 (k : Nat)), (12, .sl 1 0 (bkR ((l[k]?.getD []).take j)).length (bkR ((l[k]?.getD []).take j)).length), (13, .int .i64 (j : Nat))], [(0, some ⟨.rows 1 (cutR l k), false, 61⟩), (1, some ⟨.rows 2 ((cutW ((l[k]?.getD []).take j)).map Sc.row), false, 63⟩)], 2⟩ ∧ m_ = (l[k]?.getD []).length - j) _ ⟨[(0, .int .i64 ga), (1, .ro (.rows 1 (l.map fun w => [.ro (.rows 2 (w.map Sc.row))]))), (2, .ro (.rows 1 (st.map fun w => [.ro (.ints .i64 w)]))), (8, .ro (.ints .u8 C)), (10, .sl 0 0 k k), (11, .int .i64 (k : Nat)), (12, .sl 1 0 (bkR ((l[k]?.getD []).take 0)).length (bkR ((l[k]?.getD []).take 0)).length), (13, .int .i64 (0 : Nat))], [(0, some ⟨.rows 1 (cutR l k), false, 61⟩), (1, some ⟨.rows 2 ((cutW ((l[k]?.getD []).take 0)).map Sc.row), false, 63⟩)], 2⟩ ⟨by simp [getT, PV.lo, lo1, bkR], by simp [getH, Blk.lo, Cells.lo, lo1, cutW, bkR], rfl, by omega⟩ ⟨(0), by omega, rfl, rfl⟩ ?_
    rintro m_ s_ ⟨j, hL30_0, rfl, rfl⟩ KL30 hL30
    have hjw := wnext (i := j) (by omega)
    have hcj := cutW_len ((l[k]?.getD []).take j)
    refine swp_seq fun K31 hK31 => ?_
    refine swp_seq fun K32 hK32 => ?_
    refine swp_region ty_ok ?_
    try simp (maxSteps := 1000000) [hrowS]
    repeat' (first | apply And.intro | intro _)
    any_goals (first | (refine hK32 _ ?_; clear hK32) | omega | (simp_all <;> omega))
    refine swp_if fun C33 hC33 => ?_
    try simp (maxSteps := 1000000) [hrowS]
    refine hC33 _ (fun hc33 => ?_) (fun hc33 => ?_)
    ·clear hC33
     try simp at hc33
     refine swp_skip ?_
     try simp only [thn, inBlk]
     refine hK31 _ ?_; clear hK31
     refine swp_seq fun K34 hK34 => ?_
     refine swp_block ?_
     refine swp_seq fun K35 hK35 => ?_
     have hri := sc_at (ws := (l[k]?.getD [])) (k := j) (by omega)
     have hbi := badS_no (hR4 _ (mem_at (w := (l[k]?.getD [])) (j := j) (by omega)))
     have hbi2 : 1 ≤ ((l[k]?.getD [])[j]?.getD default).len ∧ ((l[k]?.getD [])[j]?.getD default).len ≤ 40 := hbi.1
     have hn1 := take_len (w := (l[k]?.getD [])) (i := j) (c := ((l[k]?.getD [])[j]?.getD default).len.toNat) (by omega) (by omega)
     have hn2 := bkR_le (w := (l[k]?.getD [])) (j + 1) hR4
     refine swp_region ty_ok ?_
     try simp (maxSteps := 1000000)
     repeat' (first | apply And.intro | intro _)
     any_goals (first | (refine hK35 _ ?_; clear hK35) | omega | (simp_all <;> omega))
     refine swp_block ?_
     refine swp_loop 2 (fun m_ s_ => ∃ (c : Nat), ((c : Int) ≤ ((l[k]?.getD [])[j]?.getD default).len) ∧ s_ = ⟨[(0, .int .i64 ga), (1, .ro (.rows 1 (l.map fun w => [.ro (.rows 2 (w.map Sc.row))]))), (2, .ro (.rows 1 (st.map fun w => [.ro (.ints .i64 w)]))), (8, .ro (.ints .u8 C)), (10, .sl 0 0 k k), (11, .int .i64 (k : Nat)), (12, .sl 1 0 ((bkR ((l[k]?.getD []).take j)).length + c) ((bkR ((l[k]?.getD []).take j)).length + c)), (13, .int .i64 (j : Nat)), (14, .int .i64 (c : Nat))], [(0, some ⟨.rows 1 (cutR l k), false, 61⟩), (1, some ⟨.rows 2 ((cutW ((l[k]?.getD []).take j) ++ List.replicate c (⟨((l[k]?.getD [])[j]?.getD default).book, 1⟩ : Sc)).map Sc.row), false, 63⟩)], 2⟩ ∧ m_ = ((l[k]?.getD [])[j]?.getD default).len.toNat - c) _ ⟨[(0, .int .i64 ga), (1, .ro (.rows 1 (l.map fun w => [.ro (.rows 2 (w.map Sc.row))]))), (2, .ro (.rows 1 (st.map fun w => [.ro (.ints .i64 w)]))), (8, .ro (.ints .u8 C)), (10, .sl 0 0 k k), (11, .int .i64 (k : Nat)), (12, .sl 1 0 ((bkR ((l[k]?.getD []).take j)).length + 0) ((bkR ((l[k]?.getD []).take j)).length + 0)), (13, .int .i64 (j : Nat)), (14, .int .i64 (0 : Nat))], [(0, some ⟨.rows 1 (cutR l k), false, 61⟩), (1, some ⟨.rows 2 ((cutW ((l[k]?.getD []).take j) ++ List.replicate 0 (⟨((l[k]?.getD [])[j]?.getD default).book, 1⟩ : Sc)).map Sc.row), false, 63⟩)], 2⟩ ⟨by simp [getT, PV.lo, lo1], by simp [getH, Blk.lo, Cells.lo, lo1], rfl, by omega⟩ ⟨(0), by omega, rfl, rfl⟩ ?_
     rintro m_ s_ ⟨c, hL36_0, rfl, rfl⟩ KL36 hL36
     have hcw := wnext (i := c) (by omega)
     refine swp_seq fun K37 hK37 => ?_
     refine swp_seq fun K38 hK38 => ?_
     refine swp_region ty_ok ?_
     try simp (maxSteps := 1000000) [hrowS, hri]
     repeat' (first | apply And.intro | intro _)
     any_goals (first | (refine hK38 _ ?_; clear hK38) | omega | (simp_all <;> omega))
     refine swp_if fun C39 hC39 => ?_
     try simp (maxSteps := 1000000) [hrowS, hri]
     refine hC39 _ (fun hc39 => ?_) (fun hc39 => ?_)
     ·clear hC39
      try simp at hc39
      refine swp_skip ?_
      try simp only [thn, inBlk]
      refine hK37 _ ?_; clear hK37
      refine swp_seq fun K40 hK40 => ?_
      refine swp_block ?_
      refine swp_region ty_ok ?_
      refine runs_cut 10 fun R41 hR41 => ?_
      try simp (maxSteps := 1000000) [hrowS, hri, List.take_succ_cons, List.take_zero, List.drop_succ_cons, List.drop_zero]
      repeat' (first | apply And.intro | intro _)
      any_goals (first | (refine hR41 _ ?_; clear hR41) | omega | (simp_all <;> omega))
      refine runs_cut 1 fun R42 hR42 => ?_
      try simp (maxSteps := 1000000) [hrowS, hri, List.take_succ_cons, List.take_zero, List.drop_succ_cons, List.drop_zero]
      repeat' (first | apply And.intro | intro _)
      any_goals (first | (refine Or.inl (hR42 _ ?_); clear hR42) | omega | (simp_all <;> omega))
      try simp (maxSteps := 1000000) [hrowS, hri, List.take_succ_cons, List.take_zero, List.drop_succ_cons, List.drop_zero]
      repeat' (first | apply And.intro | intro _)
      any_goals (first | (refine hK40 _ ?_; clear hK40) | omega | (simp_all <;> omega))
      refine swp_region ty_ok ?_
      try simp (maxSteps := 1000000)
      repeat' apply And.intro
      any_goals (try omega)
      refine hL36 _ ⟨[(0, .int .i64 ga), (1, .ro (.rows 1 (l.map fun w => [.ro (.rows 2 (w.map Sc.row))]))), (2, .ro (.rows 1 (st.map fun w => [.ro (.ints .i64 w)]))), (8, .ro (.ints .u8 C)), (10, .sl 0 0 k k), (11, .int .i64 (k : Nat)), (12, .sl 1 0 ((bkR ((l[k]?.getD []).take j)).length + (c + 1)) ((bkR ((l[k]?.getD []).take j)).length + (c + 1))), (13, .int .i64 (j : Nat)), (14, .int .i64 ((c + 1) : Nat))], [(0, some ⟨.rows 1 (cutR l k), false, 61⟩), (1, some ⟨.rows 2 ((cutW ((l[k]?.getD []).take j) ++ List.replicate (c + 1) (⟨((l[k]?.getD [])[j]?.getD default).book, 1⟩ : Sc)).map Sc.row), false, 63⟩)], 2⟩ _ ?_ ⟨(c + 1), by omega, rfl, rfl⟩ ⟨by (simp [getT, PV.lo, lo1, hcw]; try omega), by simp [getH, Blk.lo, Cells.lo, lo1, List.replicate_succ', Sc.row], rfl, by omega⟩
      omega
     ·clear hC39
      try simp at hc39
      refine swp_exit ?_
      simp [thn, inBlk]
      refine hK34 _ ?_; clear hK34
      refine swp_region ty_ok ?_
      try simp (maxSteps := 1000000)
      repeat' apply And.intro
      any_goals (try omega)
      refine hL30 _ ⟨[(0, .int .i64 ga), (1, .ro (.rows 1 (l.map fun w => [.ro (.rows 2 (w.map Sc.row))]))), (2, .ro (.rows 1 (st.map fun w => [.ro (.ints .i64 w)]))), (8, .ro (.ints .u8 C)), (10, .sl 0 0 k k), (11, .int .i64 (k : Nat)), (12, .sl 1 0 (bkR ((l[k]?.getD []).take (j + 1))).length (bkR ((l[k]?.getD []).take (j + 1))).length), (13, .int .i64 ((j + 1) : Nat))], [(0, some ⟨.rows 1 (cutR l k), false, 61⟩), (1, some ⟨.rows 2 ((cutW ((l[k]?.getD []).take (j + 1))).map Sc.row), false, 63⟩)], 2⟩ _ ?_ ⟨(j + 1), by omega, rfl, rfl⟩ ⟨by (have hce : c = ((l[k]?.getD [])[j]?.getD default).len.toNat := (by omega); subst hce; simp [getT, PV.lo, lo1, hjw, hn1]), by (have hce : c = ((l[k]?.getD [])[j]?.getD default).len.toNat := (by omega); subst hce; simp [getH, Blk.lo, Cells.lo, lo1, cutW_succ (w := (l[k]?.getD [])) (i := j) (by omega)]), rfl, by omega⟩
      omega
    ·clear hC33
     try simp at hc33
     refine swp_exit ?_
     simp [thn, inBlk]
     refine hK28 _ ?_; clear hK28
     refine swp_region ty_ok ?_
     refine runs_cut 2 fun R43 hR43 => ?_
     try simp (maxSteps := 1000000) [List.take_succ_cons, List.take_zero, List.drop_succ_cons, List.drop_zero]
     repeat' (first | apply And.intro | intro _)
     any_goals (first | (refine hR43 _ ?_; clear hR43) | omega | (simp_all <;> omega))
     refine runs_cut 1 fun R44 hR44 => ?_
     try simp (maxSteps := 1000000) [List.take_succ_cons, List.take_zero, List.drop_succ_cons, List.drop_zero]
     repeat' (first | apply And.intro | intro _)
     any_goals (first | (refine Or.inl (hR44 _ ?_); clear hR44) | omega | (simp_all <;> omega))
     try simp (maxSteps := 1000000) [List.take_succ_cons, List.take_zero, List.drop_succ_cons, List.drop_zero]
     repeat' (first | apply And.intro | intro _)
     any_goals (first | (refine hK26 _ ?_; clear hK26) | omega | (simp_all <;> omega))
     refine swp_region ty_ok ?_
     try simp (maxSteps := 1000000)
     repeat' apply And.intro
     any_goals (try omega)
     refine hL22 _ ⟨[(0, .int .i64 ga), (1, .ro (.rows 1 (l.map fun w => [.ro (.rows 2 (w.map Sc.row))]))), (2, .ro (.rows 1 (st.map fun w => [.ro (.ints .i64 w)]))), (8, .ro (.ints .u8 C)), (10, .sl 0 0 (k + 1) (k + 1)), (11, .int .i64 ((k + 1) : Nat))], [(0, some ⟨.rows 1 (cutR l (k + 1)), false, 61⟩)], 1⟩ _ ?_ ⟨(k + 1), by omega, rfl, rfl⟩ ⟨by simp [getT, PV.lo, lo1, hkw], by (have hje : j = (l[k]?.getD []).length := (by omega); subst hje; simp [getH, Blk.lo, Cells.lo, lo1, cutR_succ (l := l) (k := k) (by omega)]), rfl, by omega⟩
     omega
   ·clear hC25
    try simp at hc25
    refine swp_exit ?_
    simp [thn, inBlk]
    refine hK20 _ ?_; clear hK20
    refine swp_seq fun K45 hK45 => ?_
    have hke : k = l.length := (by omega)
    subst hke
    rw [cutR_all]
    refine swp_frz [10] (ps := [.ro (.rows 1 ((l.map cutW).map fun w : List Sc => [PV.ro (.rows 2 (w.map Sc.row))]))]) (is := [0]) (by simp [getT, getH, frzA, frz, frz1, Cells.len, Cells.pur, pur1]; try omega) ?_
    simp only [onL, kills, List.map_cons, List.map_nil, List.zip_cons_cons, List.zip_nil_left, List.zip_nil_right, List.cons_append, List.nil_append]
    refine swp_region ty_ok ?_
    refine runs_cut 3 fun R46 hR46 => ?_
    try simp (maxSteps := 1000000) [List.take_succ_cons, List.take_zero, List.drop_succ_cons, List.drop_zero]
    repeat' (first | apply And.intro | intro _)
    any_goals (first | (refine hR46 _ ?_; clear hR46) | omega | (simp_all <;> omega))
    refine runs_cut 1 fun R47 hR47 => ?_
    try simp (maxSteps := 1000000) [List.take_succ_cons, List.take_zero, List.drop_succ_cons, List.drop_zero]
    refine .inl ⟨_, hB, ?_⟩
    try simp (maxSteps := 1000000)
    repeat' (first | apply And.intro | intro _)
    any_goals (first | (refine hR47 _ ?_; clear hR47) | omega | (simp_all <;> omega))
    try simp (maxSteps := 1000000) [List.take_succ_cons, List.take_zero, List.drop_succ_cons, List.drop_zero]
    repeat' (first | apply And.intro | intro _)
    any_goals (first | (refine hK45 _ ?_; clear hK45) | omega | (simp_all <;> omega))
    refine swp_seq fun K48 hK48 => ?_
    refine swp_region ty_ok ?_
    try simp (maxSteps := 1000000)
    repeat' (first | apply And.intro | intro _)
    any_goals (first | (refine hK48 _ ?_; clear hK48) | omega | (simp_all <;> omega))
    refine swp_ret ?_
    simp [fnPost, Try.results5, resP, tupOf]

end Go.Proofs.Ytgheplondkoedaa

