import Derived.Test.YtgheplondkoedaaWf
import Derived.Test.YtgheplondkoedaaTyh
import Derived.Test.YtgheplondkoedaaHbits
import Derived.Test.YtgheplondkoedaaHbits2
import Derived.Test.YtgheplondkoedaaHsrt
import Derived.Test.YtgheplondkoedaaHbk
import Derived.Test.YtgheplondkoedaaHst
import Derived.Test.YtgheplondkoedaaHbk9
import Derived.Test.YtgheplondkoedaaSca
import Derived.Test.YtgheplondkoedaaSca2
import Derived.Test.YtgheplondkoedaaSca3
import Derived.Test.YtgheplondkoedaaSca4
namespace Go.Proofs.Ytgheplondkoedaa
set_option linter.unusedVariables false
set_option linter.unusedSimpArgs false
set_option maxRecDepth 10000
open Go Go.Pv

open Go.RowKit
theorem putOk_9 {v : Int} (h : 0 ≤ v ∧ v ≤ 511) (b : List Int) : putL b v 9 = b ++ bitsOf v.toNat 9 := putL_yes (by
 unfold putOk
 rw [decide_eq_true_eq]
 have : (2 : Int) ^ (9 : Int).toNat = 512 := rfl
 omega)
theorem rwB_succ {bs ns : List Int} {a : Int × Int} {k : Nat} {b : Int} (h : bs[k]?.getD 0 = b) : rwB bs ns a (k + 1) = rwB bs ns a k ++ bdL (aN bs ns a k) b (ns[k]?.getD 0) := by rw [rwB, h]

attribute [local simp] runs gd step1 need evu un opnds opv ev cst cst1 cstL getT getH putT onL nxt argT cellsOf PV.one thn inBlk jmp fldP ldP ldC live Cells.len Cells.get Cells.w sug ldv bin eqF eq1 ops2 sh2 binv Tk.agg stC apC rdS apS cpC cpS mvL zp argsP idx fillP toInts chunks mkC ixS ixA oidx slP sl0 slA optL List.append mxF bltn frzA frz frzL frz1 pur1 Cells.pur PV.scal scal1 runD rdO PV.ids id1 zids ety Eff.on cnd minb and1b ifmax ifmin mxv sugI strv w0 w1 w2 wm1
set_option maxHeartbeats 4000000 in
theorem put_r (st : List (List Int)) (k j : Nat) (a : Int × Int) (c : List Int) (w : List Sc) (x : Sc) (b : Int) (hk : k < st.length) (hr : (st[k]?.getD []).length ≤ 1000000) (hj : j < (st[k]?.getD []).length) (hb : 0 ≤ b) (ha : AOk a) (hbd : bdB a b ((st[k]?.getD [])[j]?.getD 0) = true) (hc : c.length ≤ 1000000) (L : Loop) (hst : L.state = .ready) (hpd : L.pending = none) (hprm : L.params = #[41, 42]) (hasg : L.assign = (rfN Try.f33 0).1) (hbod : L.body = (rfN Try.f33 0).2) (hsz : L.tmps.size = 100) : RCall Try.prog L 6 [.int .i64 (j : Nat), .int .i64 b] [(6, some ⟨.lp L (psOf 100 [(4, .ptr 0 0 0 1), (7, .ptr 1 0 0 1), (11, .ptr 3 0 0 1), (12, .ptr 4 0 0 1)]), true, 0⟩), (0, some ⟨.rows 1 [[.ro (.ints .u8 c)]], true, 22⟩), (1, some ⟨.rows 1 [[.ro (.rows 1 (st.map fun w => [.ro (.ints .i64 w)]))]], true, 56⟩), (2, some ⟨.rows 2 [[.int .i64 (a).1, .int .i64 (a).2]], true, 109⟩), (3, some ⟨.rows 1 [[.ptr 2 0 0 1]], true, 107⟩), (4, some ⟨.rows 1 [[.int .i64 (k : Nat)]], true, 3⟩), (5, some ⟨.rows 1 [[.ro (.rows 2 (w.map Sc.row))]], true, 61⟩), (7, some ⟨.rows 2 [[.int .i64 x.book, .int .i64 x.len]], true, 63⟩)] 8 [(0, some ⟨.rows 1 [[.ro (.ints .u8 (c ++ bdL a b ((st[k]?.getD [])[j]?.getD 0)))]], true, 22⟩), (2, some ⟨.rows 2 [[.int .i64 (bdN a b ((st[k]?.getD [])[j]?.getD 0)).1, .int .i64 (bdN a b ((st[k]?.getD [])[j]?.getD 0)).2]], true, 109⟩)] := by
 have hrowT := i_at (l := st) (k := k) hk
 have hI := bd_iff.1 hbd
 have hA := ha
 unfold AOk at hA
 refine rcall_body (nt := 100) (ps := psOf 100 [(4, .ptr 0 0 0 1), (7, .ptr 1 0 0 1), (11, .ptr 3 0 0 1), (12, .ptr 4 0 0 1)]) (Tt := 0) (tm0 := [(4, .ptr 0 0 0 1), (7, .ptr 1 0 0 1), (11, .ptr 3 0 0 1), (12, .ptr 4 0 0 1)]) hst hpd (by rw [hprm]; rfl) hsz (psOf_tm (by rfl)) (by simp [getH]) (by simp [Eff.on, put, getH]) (fun ro => ?_)
 rw [hprm, hasg, hbod]
 simp only [List.zip_cons_cons, List.zip_nil_left, List.zip_nil_right, tmA, putT, Nat.reduceLT, if_true]
 refine srp_seq fun K1 hK1 => ?_
 refine srp_region ty_ok ?_
 try simp (maxSteps := 1000000)
 repeat' (first | apply And.intro | intro _)
 any_goals (first | (refine hK1 _ ?_; clear hK1) | omega | (simp_all <;> omega))
 refine srp_region ty_ok ?_
 try simp (maxSteps := 1000000)
 refine ⟨rfl, ?_⟩
 refine srp_block ?_
 refine srp_seq fun K2 hK2 => ?_
 refine srp_region ty_ok ?_
 try simp (maxSteps := 1000000) [hrowT]
 repeat' (first | apply And.intro | intro _)
 any_goals (first | (refine hK2 _ ?_; clear hK2) | omega | (simp_all <;> omega))
 refine srp_seq fun K3 hK3 => ?_
 refine srp_block ?_
 refine srp_seq fun K4 hK4 => ?_
 refine srp_region ty_ok ?_
 try simp (maxSteps := 1000000)
 repeat' (first | apply And.intro | intro _)
 any_goals (first | (refine hK4 _ ?_; clear hK4) | omega | (simp_all <;> omega))
 refine srp_if fun C5 hC5 => ?_
 try simp (maxSteps := 1000000)
 refine hC5 _ (fun hc5 => ?_) (fun hc5 => ?_)
 ·clear hC5
  try simp at hc5
  refine srp_exit ?_
  simp [thn, inBlk]
  refine ⟨rfl, by simp [getH], ?_⟩
  rw [bdN_00 hc5, bdL_0 hc5, List.append_nil]
  simp [getH, Eff.on, put, Blk.inL, Cells.inL, inL1]
 ·clear hC5
  try simp at hc5
  refine srp_seq fun K6 hK6 => ?_
  refine srp_region ty_ok ?_
  try simp (maxSteps := 1000000)
  repeat' (first | apply And.intro | intro _)
  any_goals (first | (refine hK6 _ ?_; clear hK6) | omega | (simp_all <;> omega))
  refine srp_if fun C7 hC7 => ?_
  try simp (maxSteps := 1000000)
  refine hC7 _ (fun hc7 => ?_) (fun hc7 => ?_)
  ·clear hC7
   try simp at hc7
   have hcc := hc7
   have hpl := putOk_9 (v := ((st[k]?.getD [])[j]?.getD 0)) (by omega) c
   refine srp_region ty_ok ?_
   refine runs_cut 2 fun R8 hR8 => ?_
   try simp (maxSteps := 1000000) [hpl, List.take_succ_cons, List.take_zero, List.drop_succ_cons, List.drop_zero]
   repeat' (first | apply And.intro | intro _)
   any_goals (first | (refine hR8 _ ?_; clear hR8) | omega | (simp_all <;> omega))
   refine runs_cut 1 fun R9 hR9 => ?_
   try simp (maxSteps := 1000000) [hpl, List.take_succ_cons, List.take_zero, List.drop_succ_cons, List.drop_zero]
   refine .inl ⟨_, put_ok c ((st[k]?.getD [])[j]?.getD 0) 9 (by omega) (by omega), ?_⟩
   try simp (maxSteps := 1000000) [hpl]
   repeat' (first | apply And.intro | intro _)
   any_goals (first | (refine hR9 _ ?_; clear hR9) | omega | (simp_all <;> omega))
   try simp (maxSteps := 1000000) [hpl, List.take_succ_cons, List.take_zero, List.drop_succ_cons, List.drop_zero]
   repeat' (first | apply And.intro | intro _)
   any_goals (first | (refine hK3 _ ?_; clear hK3) | omega | (simp_all <;> omega))
   refine srp_region ty_ok ?_
   refine runs_cut 3 fun R10 hR10 => ?_
   try simp (maxSteps := 1000000) [List.take_succ_cons, List.take_zero, List.drop_succ_cons, List.drop_zero]
   repeat' (first | apply And.intro | intro _)
   any_goals (first | (refine hR10 _ ?_; clear hR10) | omega | (simp_all <;> omega))
   try simp (maxSteps := 1000000) [List.take_succ_cons, List.take_zero, List.drop_succ_cons, List.drop_zero]
   refine .inr (hcl_mk (take_yes2 _ a b ((st[k]?.getD [])[j]?.getD 0) ha (tk_yes (by assumption) hbd)) (by simp [PV.ids, id1, getH, Blk.inL, Cells.inL, inL1]) (by simp [PV.inL, inL1]) (by simp) ?_)
   try simp (maxSteps := 1000000)
   refine ⟨rfl, by simp [getH], ?_⟩
   rw [bdN_n0 (by assumption), bdL_n hc7.1 hc7.2]
   simp [getH, Eff.on, put, Blk.inL, Cells.inL, inL1]
  ·clear hC7
   try simp at hc7
   refine srp_seq fun K11 hK11 => ?_
   refine srp_region ty_ok ?_
   try simp (maxSteps := 1000000)
   repeat' (first | apply And.intro | intro _)
   any_goals (first | (refine hK11 _ ?_; clear hK11) | omega | (simp_all <;> omega))
   refine srp_if fun C12 hC12 => ?_
   try simp (maxSteps := 1000000)
   refine hC12 _ (fun hc12 => ?_) (fun hc12 => ?_)
   ·clear hC12
    try simp at hc12
    have hsub : IntKind.i64.wrap (((st[k]?.getD [])[j]?.getD 0) - a.2) = ((st[k]?.getD [])[j]?.getD 0) - a.2 := w64 (by omega)
    refine srp_draw ty_ok mixed (ms := [0, 0, 0, 4, 12, 28, 62, 127, 255, 511, 511, 1023]) (by kernel_rfl) ?_
    refine runD_cut 7 fun R13 hR13 => ?_
    try simp (maxSteps := 1000000) [hsub, List.take_succ_cons, List.take_zero, List.drop_succ_cons, List.drop_zero]
    repeat' (first | apply And.intro | intro _)
    any_goals (first | (refine hR13 _ _ _ _ ?_; clear hR13) | omega | (simp_all <;> omega))
    refine runD_cut 1 fun R14 hR14 => ?_
    try simp (maxSteps := 1000000) [hsub, List.take_succ_cons, List.take_zero, List.drop_succ_cons, List.drop_zero]
    refine .inl ⟨_, hstep_ok c (by omega) (((st[k]?.getD [])[j]?.getD 0) - a.2) (by unfold St60; omega), ?_⟩
    try simp (maxSteps := 1000000) [hsub]
    repeat' (first | apply And.intro | intro _)
    any_goals (first | (refine hR14 _ _ _ _ ?_; clear hR14) | omega | (simp_all <;> omega))
    try simp (maxSteps := 1000000) [hsub, List.take_succ_cons, List.take_zero, List.drop_succ_cons, List.drop_zero]
    repeat' (first | apply And.intro | intro _)
    any_goals (first | kernel_rfl | (refine hK3 _ ?_; clear hK3) | omega | (simp_all <;> omega))
    refine srp_region ty_ok ?_
    refine runs_cut 3 fun R16 hR16 => ?_
    try simp (maxSteps := 1000000) [List.take_succ_cons, List.take_zero, List.drop_succ_cons, List.drop_zero]
    repeat' (first | apply And.intro | intro _)
    any_goals (first | (refine hR16 _ ?_; clear hR16) | omega | (simp_all <;> omega))
    try simp (maxSteps := 1000000) [List.take_succ_cons, List.take_zero, List.drop_succ_cons, List.drop_zero]
    refine .inr (hcl_mk (take_yes2 _ a b ((st[k]?.getD [])[j]?.getD 0) ha (tk_yes (by assumption) hbd)) (by simp [PV.ids, id1, getH, Blk.inL, Cells.inL, inL1]) (by simp [PV.inL, inL1]) (by simp) ?_)
    try simp (maxSteps := 1000000)
    refine ⟨rfl, by simp [getH], ?_⟩
    rw [bdN_n0 (by assumption), bdL_13 hc12 (by omega)]
    simp [getH, Eff.on, put, Blk.inL, Cells.inL, inL1]
   ·clear hC12
    try simp at hc12
    have hsub : IntKind.i64.wrap (((st[k]?.getD [])[j]?.getD 0) - a.1) = ((st[k]?.getD [])[j]?.getD 0) - a.1 := w64 (by omega)
    refine srp_draw ty_ok mixed (ms := [0, 0, 0, 4, 12, 28, 62, 127, 255, 511, 511, 1023]) (by kernel_rfl) ?_
    refine runD_cut 7 fun R17 hR17 => ?_
    try simp (maxSteps := 1000000) [hsub, List.take_succ_cons, List.take_zero, List.drop_succ_cons, List.drop_zero]
    repeat' (first | apply And.intro | intro _)
    any_goals (first | (refine hR17 _ _ _ _ ?_; clear hR17) | omega | (simp_all <;> omega))
    refine runD_cut 1 fun R18 hR18 => ?_
    try simp (maxSteps := 1000000) [hsub, List.take_succ_cons, List.take_zero, List.drop_succ_cons, List.drop_zero]
    refine .inl ⟨_, hstep_ok c (by omega) (((st[k]?.getD [])[j]?.getD 0) - a.1) (by unfold St60; omega), ?_⟩
    try simp (maxSteps := 1000000) [hsub]
    repeat' (first | apply And.intro | intro _)
    any_goals (first | (refine hR18 _ _ _ _ ?_; clear hR18) | omega | (simp_all <;> omega))
    try simp (maxSteps := 1000000) [hsub, List.take_succ_cons, List.take_zero, List.drop_succ_cons, List.drop_zero]
    repeat' (first | apply And.intro | intro _)
    any_goals (first | kernel_rfl | (refine hK3 _ ?_; clear hK3) | omega | (simp_all <;> omega))
    refine srp_region ty_ok ?_
    refine runs_cut 3 fun R20 hR20 => ?_
    try simp (maxSteps := 1000000) [List.take_succ_cons, List.take_zero, List.drop_succ_cons, List.drop_zero]
    repeat' (first | apply And.intro | intro _)
    any_goals (first | (refine hR20 _ ?_; clear hR20) | omega | (simp_all <;> omega))
    try simp (maxSteps := 1000000) [List.take_succ_cons, List.take_zero, List.drop_succ_cons, List.drop_zero]
    refine .inr (hcl_mk (take_yes2 _ a b ((st[k]?.getD [])[j]?.getD 0) ha (tk_yes (by assumption) hbd)) (by simp [PV.ids, id1, getH, Blk.inL, Cells.inL, inL1]) (by simp [PV.inL, inL1]) (by simp) ?_)
    try simp (maxSteps := 1000000)
    refine ⟨rfl, by simp [getH], ?_⟩
    rw [bdN_n0 (by assumption), bdL_s (by assumption) hc12]
    simp [getH, Eff.on, put, Blk.inL, Cells.inL, inL1]

set_option maxHeartbeats 8000000 in
theorem put_by (L : Loop) (hst : L.state = .ready) (hpd : L.pending = none) (hprm : L.params = #[41, 42]) (hasg : L.assign = (rfN Try.f33 0).1) (hbod : L.body = (rfN Try.f33 0).2) (hsz : L.tmps.size = 100) (st : List (List Int)) (k : Nat) (a : Int × Int) (D : List Int) (hD : D.length ≤ 900000) (hk : k < st.length) (hr : (st[k]?.getD []).length ≤ 1000000) (ha : AOk a) (w : List Sc) (hw : ∀ x ∈ w, badS x = false) (hwl : w.length ≤ 40) (hbl : (bkR w).length ≤ 40) (hok : (bkR w).length ≤ (st[k]?.getD []).length ∧ oN (bkR w) (st[k]?.getD []) a (bkR w).length = true) : HCall Try.prog 104 [.yld 6, .ptr 5 0 0 1] [(6, some ⟨.lp L (psOf 100 [(4, .ptr 0 0 0 1), (7, .ptr 1 0 0 1), (11, .ptr 3 0 0 1), (12, .ptr 4 0 0 1)]), true, 0⟩), (0, some ⟨.rows 1 [[.ro (.ints .u8 (D ++ rwB (bkR w) (st[k]?.getD []) a 0))]], true, 22⟩), (1, some ⟨.rows 1 [[.ro (.rows 1 (st.map fun w => [.ro (.ints .i64 w)]))]], true, 56⟩), (2, some ⟨.rows 2 [[.int .i64 (aN (bkR w) (st[k]?.getD []) a 0).1, .int .i64 (aN (bkR w) (st[k]?.getD []) a 0).2]], true, 109⟩), (3, some ⟨.rows 1 [[.ptr 2 0 0 1]], true, 107⟩), (4, some ⟨.rows 1 [[.int .i64 (k : Nat)]], true, 3⟩), (5, some ⟨.rows 1 [[.ro (.rows 2 (w.map Sc.row))]], true, 61⟩)] 7 (.tup []) [(0, some ⟨.rows 1 [[.ro (.ints .u8 (D ++ rwB (bkR w) (st[k]?.getD []) a (bkR w).length))]], true, 22⟩), (2, some ⟨.rows 2 [[.int .i64 (aN (bkR w) (st[k]?.getD []) a (bkR w).length).1, .int .i64 (aN (bkR w) (st[k]?.getD []) a (bkR w).length).2]], true, 109⟩)] := by
 have hplo : ∀ y ∈ (psOf 100 [(4, .ptr 0 0 0 1), (7, .ptr 1 0 0 1), (11, .ptr 3 0 0 1), (12, .ptr 4 0 0 1)]), PV.lo 8 y = true := psOf_lo (by rfl)
 have hplo8 : ∀ y ∈ (psOf 100 [(4, .ptr 0 0 0 1), (7, .ptr 1 0 0 1), (11, .ptr 3 0 0 1), (12, .ptr 4 0 0 1)]), PV.lo 7 y = true := psOf_lo (by rfl)
 refine hcall_body ty_ok Try.func104 rfl (by rfl) (by simp) ?_
 rw [Try.ntmps104]
 refine swp_seq fun K1 hK1 => ?_
 refine swp_region ty_ok ?_
 try simp (maxSteps := 1000000)
 repeat' (first | apply And.intro | intro _)
 any_goals (first | (refine hK1 _ ?_; clear hK1) | omega | (simp_all <;> omega))
 refine swp_seq fun K2 hK2 => ?_
 refine swp_region ty_ok ?_
 try simp (maxSteps := 1000000)
 repeat' (first | apply And.intro | intro _)
 any_goals (first | (refine hK2 _ ?_; clear hK2) | omega | (simp_all <;> omega))
 refine swp_block ?_
 refine swp_loop 7 (fun m_ s_ => ∃ (i : Nat), (i ≤ w.length) ∧ s_ = ⟨[(0, .yld 6), (1, .ptr 5 0 0 1), (3, .int .i64 ((bkR (w.take i)).length : Nat)), (6, .ro (.rows 2 (w.map Sc.row))), (7, .int .i64 (w.length : Nat)), (8, .int .i64 (i : Nat))], [(6, some ⟨.lp L (psOf 100 [(4, .ptr 0 0 0 1), (7, .ptr 1 0 0 1), (11, .ptr 3 0 0 1), (12, .ptr 4 0 0 1)]), true, 0⟩), (0, some ⟨.rows 1 [[.ro (.ints .u8 (D ++ rwB (bkR w) (st[k]?.getD []) a (bkR (w.take i)).length))]], true, 22⟩), (1, some ⟨.rows 1 [[.ro (.rows 1 (st.map fun w => [.ro (.ints .i64 w)]))]], true, 56⟩), (2, some ⟨.rows 2 [[.int .i64 (aN (bkR w) (st[k]?.getD []) a (bkR (w.take i)).length).1, .int .i64 (aN (bkR w) (st[k]?.getD []) a (bkR (w.take i)).length).2]], true, 109⟩), (3, some ⟨.rows 1 [[.ptr 2 0 0 1]], true, 107⟩), (4, some ⟨.rows 1 [[.int .i64 (k : Nat)]], true, 3⟩), (5, some ⟨.rows 1 [[.ro (.rows 2 (w.map Sc.row))]], true, 61⟩)], 7⟩ ∧ m_ = w.length - i) _ ⟨[(0, .yld 6), (1, .ptr 5 0 0 1), (3, .int .i64 ((bkR (w.take 0)).length : Nat)), (6, .ro (.rows 2 (w.map Sc.row))), (7, .int .i64 (w.length : Nat)), (8, .int .i64 (0 : Nat))], [(6, some ⟨.lp L (psOf 100 [(4, .ptr 0 0 0 1), (7, .ptr 1 0 0 1), (11, .ptr 3 0 0 1), (12, .ptr 4 0 0 1)]), true, 0⟩), (0, some ⟨.rows 1 [[.ro (.ints .u8 (D ++ rwB (bkR w) (st[k]?.getD []) a (bkR (w.take 0)).length))]], true, 22⟩), (1, some ⟨.rows 1 [[.ro (.rows 1 (st.map fun w => [.ro (.ints .i64 w)]))]], true, 56⟩), (2, some ⟨.rows 2 [[.int .i64 (aN (bkR w) (st[k]?.getD []) a (bkR (w.take 0)).length).1, .int .i64 (aN (bkR w) (st[k]?.getD []) a (bkR (w.take 0)).length).2]], true, 109⟩), (3, some ⟨.rows 1 [[.ptr 2 0 0 1]], true, 107⟩), (4, some ⟨.rows 1 [[.int .i64 (k : Nat)]], true, 3⟩), (5, some ⟨.rows 1 [[.ro (.rows 2 (w.map Sc.row))]], true, 61⟩)], 7⟩ ⟨by simp [getT, argT, PV.lo, lo1, bkR], by (simp [getH, Blk.lo, Cells.lo, lo1, bkR, aN, rwB]; try exact hplo8), rfl, by omega⟩ ⟨(0), by omega, rfl, rfl⟩ ?_
 rintro m_ s_ ⟨i, hL3_0, rfl, rfl⟩ KL3 hL3
 have hiw := wnext (i := i) (by omega)
 refine swp_seq fun K4 hK4 => ?_
 refine swp_region ty_ok ?_
 try simp (maxSteps := 1000000)
 repeat' (first | apply And.intro | intro _)
 any_goals (first | (refine hK4 _ ?_; clear hK4) | omega | (simp_all <;> omega))
 refine swp_seq fun K5 hK5 => ?_
 refine swp_if fun C6 hC6 => ?_
 try simp (maxSteps := 1000000)
 refine hC6 _ (fun hc6 => ?_) (fun hc6 => ?_)
 ·clear hC6
  try simp at hc6
  refine swp_skip ?_
  try simp only [thn, inBlk]
  refine hK5 _ ?_; clear hK5
  refine swp_seq fun K7 hK7 => ?_
  refine swp_block ?_
  refine swp_seq fun K8 hK8 => ?_
  have hri := sc_at (ws := w) (k := i) (by omega)
  refine swp_region ty_ok ?_
  try simp (maxSteps := 1000000) [hri]
  repeat' (first | apply And.intro | intro _)
  any_goals (first | (refine hK8 _ ?_; clear hK8) | omega | (simp_all <;> omega))
  refine swp_seq fun K9 hK9 => ?_
  refine swp_region ty_ok ?_
  try simp (maxSteps := 1000000)
  repeat' (first | apply And.intro | intro _)
  any_goals (first | (refine hK9 _ ?_; clear hK9) | omega | (simp_all <;> omega))
  refine swp_block ?_
  have hri := sc_at (ws := w) (k := i) (by omega)
  have hbi := badS_no (hw _ (mem_at (w := w) (j := i) (by omega)))
  have hbi2 : 1 ≤ (w[i]?.getD default).len ∧ (w[i]?.getD default).len ≤ 40 := hbi.1
  refine swp_loop 8 (fun m_ s_ => ∃ (c : Nat), ((c : Int) ≤ (w[i]?.getD default).len) ∧ s_ = ⟨[(0, .yld 6), (1, .ptr 5 0 0 1), (3, .int .i64 (((bkR (w.take i)).length + c) : Nat)), (6, .ro (.rows 2 (w.map Sc.row))), (7, .int .i64 (w.length : Nat)), (8, .int .i64 (i : Nat)), (5, .ptr 7 0 0 1), (13, .int .i64 (w[i]?.getD default).len), (14, .int .i64 (c : Nat))], [(6, some ⟨.lp L (psOf 100 [(4, .ptr 0 0 0 1), (7, .ptr 1 0 0 1), (11, .ptr 3 0 0 1), (12, .ptr 4 0 0 1)]), true, 0⟩), (0, some ⟨.rows 1 [[.ro (.ints .u8 (D ++ rwB (bkR w) (st[k]?.getD []) a ((bkR (w.take i)).length + c)))]], true, 22⟩), (1, some ⟨.rows 1 [[.ro (.rows 1 (st.map fun w => [.ro (.ints .i64 w)]))]], true, 56⟩), (2, some ⟨.rows 2 [[.int .i64 (aN (bkR w) (st[k]?.getD []) a ((bkR (w.take i)).length + c)).1, .int .i64 (aN (bkR w) (st[k]?.getD []) a ((bkR (w.take i)).length + c)).2]], true, 109⟩), (3, some ⟨.rows 1 [[.ptr 2 0 0 1]], true, 107⟩), (4, some ⟨.rows 1 [[.int .i64 (k : Nat)]], true, 3⟩), (5, some ⟨.rows 1 [[.ro (.rows 2 (w.map Sc.row))]], true, 61⟩), (7, some ⟨.rows 2 [[.int .i64 (w[i]?.getD default).book, .int .i64 (w[i]?.getD default).len]], true, 63⟩)], 8⟩ ∧ m_ = (w[i]?.getD default).len.toNat - c) _ ⟨[(0, .yld 6), (1, .ptr 5 0 0 1), (3, .int .i64 (((bkR (w.take i)).length + 0) : Nat)), (6, .ro (.rows 2 (w.map Sc.row))), (7, .int .i64 (w.length : Nat)), (8, .int .i64 (i : Nat)), (5, .ptr 7 0 0 1), (13, .int .i64 (w[i]?.getD default).len), (14, .int .i64 (0 : Nat))], [(6, some ⟨.lp L (psOf 100 [(4, .ptr 0 0 0 1), (7, .ptr 1 0 0 1), (11, .ptr 3 0 0 1), (12, .ptr 4 0 0 1)]), true, 0⟩), (0, some ⟨.rows 1 [[.ro (.ints .u8 (D ++ rwB (bkR w) (st[k]?.getD []) a ((bkR (w.take i)).length + 0)))]], true, 22⟩), (1, some ⟨.rows 1 [[.ro (.rows 1 (st.map fun w => [.ro (.ints .i64 w)]))]], true, 56⟩), (2, some ⟨.rows 2 [[.int .i64 (aN (bkR w) (st[k]?.getD []) a ((bkR (w.take i)).length + 0)).1, .int .i64 (aN (bkR w) (st[k]?.getD []) a ((bkR (w.take i)).length + 0)).2]], true, 109⟩), (3, some ⟨.rows 1 [[.ptr 2 0 0 1]], true, 107⟩), (4, some ⟨.rows 1 [[.int .i64 (k : Nat)]], true, 3⟩), (5, some ⟨.rows 1 [[.ro (.rows 2 (w.map Sc.row))]], true, 61⟩), (7, some ⟨.rows 2 [[.int .i64 (w[i]?.getD default).book, .int .i64 (w[i]?.getD default).len]], true, 63⟩)], 8⟩ ⟨by simp [getT, argT, PV.lo, lo1], by (simp [getH, Blk.lo, Cells.lo, lo1]; try exact hplo), rfl, by omega⟩ ⟨(0), by omega, rfl, rfl⟩ ?_
  rintro m_ s_ ⟨c, hL10_0, rfl, rfl⟩ KL10 hL10
  have hcw := wnext (i := c) (by omega)
  refine swp_seq fun K11 hK11 => ?_
  refine swp_region ty_ok ?_
  try simp (maxSteps := 1000000)
  repeat' (first | apply And.intro | intro _)
  any_goals (first | (refine hK11 _ ?_; clear hK11) | omega | (simp_all <;> omega))
  refine swp_seq fun K12 hK12 => ?_
  refine swp_if fun C13 hC13 => ?_
  try simp (maxSteps := 1000000)
  refine hC13 _ (fun hc13 => ?_) (fun hc13 => ?_)
  ·clear hC13
   try simp at hc13
   refine swp_skip ?_
   try simp only [thn, inBlk]
   refine hK12 _ ?_; clear hK12
   refine swp_seq fun K14 hK14 => ?_
   refine swp_block ?_
   refine swp_seq fun K15 hK15 => ?_
   refine swp_seq fun K16 hK16 => ?_
   obtain ⟨hc1, hc2⟩ := bkR_cut (l := w) (i := i) (c := c) (by omega) (by omega)
   have hb0 : 0 ≤ (w[i]?.getD default).book := hbi.2.1
   refine swp_yield ty_ok 4 _ rfl ?_
   try simp (maxSteps := 1000000) [List.take_succ_cons, List.take_zero, List.drop_succ_cons, List.drop_zero, List.take_nil, List.drop_nil]
   have hjR : ((bkR (w.take i)).length + c) < (st[k]?.getD []).length := by omega
   have hoat := oN_mono (k := ((bkR (w.take i)).length + c)) (by omega) hok.2
   have hbdat := oN_at hok.2 hc2
   have hs1 : ((bkR (w.take i)).length + c) + 1 = (bkR (w.take i)).length + (c + 1) := by omega
   have hbl2 := rwB_len _ hoat
   refine ⟨16, [17, 19], _, 6, L, (psOf 100 [(4, .ptr 0 0 0 1), (7, .ptr 1 0 0 1), (11, .ptr 3 0 0 1), (12, .ptr 4 0 0 1)]), 0, [(6, some ⟨.lp L (psOf 100 [(4, .ptr 0 0 0 1), (7, .ptr 1 0 0 1), (11, .ptr 3 0 0 1), (12, .ptr 4 0 0 1)]), true, 0⟩), (0, some ⟨.rows 1 [[.ro (.ints .u8 (D ++ rwB (bkR w) (st[k]?.getD []) a ((bkR (w.take i)).length + c)))]], true, 22⟩), (1, some ⟨.rows 1 [[.ro (.rows 1 (st.map fun w => [.ro (.ints .i64 w)]))]], true, 56⟩), (2, some ⟨.rows 2 [[.int .i64 (aN (bkR w) (st[k]?.getD []) a ((bkR (w.take i)).length + c)).1, .int .i64 (aN (bkR w) (st[k]?.getD []) a ((bkR (w.take i)).length + c)).2]], true, 109⟩), (3, some ⟨.rows 1 [[.ptr 2 0 0 1]], true, 107⟩), (4, some ⟨.rows 1 [[.int .i64 (k : Nat)]], true, 3⟩), (5, some ⟨.rows 1 [[.ro (.rows 2 (w.map Sc.row))]], true, 61⟩), (7, some ⟨.rows 2 [[.int .i64 (w[i]?.getD default).book, .int .i64 (w[i]?.getD default).len]], true, 63⟩)], 8, [(0, some ⟨.rows 1 [[.ro (.ints .u8 (D ++ rwB (bkR w) (st[k]?.getD []) a (((bkR (w.take i)).length + c) + 1)))]], true, 22⟩), (2, some ⟨.rows 2 [[.int .i64 (aN (bkR w) (st[k]?.getD []) a (((bkR (w.take i)).length + c) + 1)).1, .int .i64 (aN (bkR w) (st[k]?.getD []) a (((bkR (w.take i)).length + c) + 1)).2]], true, 109⟩)], rfl, rfl, by simp [getT], by simp [getH], (by intro id; simp only [getH]; repeat' split <;> simp_all), (by simp), (by have h := put_r st k ((bkR (w.take i)).length + c) (aN (bkR w) (st[k]?.getD []) a ((bkR (w.take i)).length + c)) (D ++ rwB (bkR w) (st[k]?.getD []) a ((bkR (w.take i)).length + c)) w (w[i]?.getD default) (w[i]?.getD default).book hk hr hjR hb0 (aN_ok ha _ hoat) (by rw [← hc1]; exact hbdat) (by rw [List.length_append]; omega) L hst hpd hprm hasg hbod hsz; rw [← aN_succ hc1, List.append_assoc, ← rwB_succ hc1] at h; simpa [getT] using h), ?_⟩
   try simp (maxSteps := 1000000) [List.take_succ_cons, List.take_zero, List.drop_succ_cons, List.drop_zero]
   repeat' (first | apply And.intro | intro _)
   any_goals (first | (refine hK16 _ ?_; clear hK16) | omega | (simp_all <;> omega))
   refine swp_if fun C18 hC18 => ?_
   try simp (maxSteps := 1000000)
   refine hC18 _ (fun hc18 => ?_) (fun hc18 => ?_)
   ·exact absurd hc18 (by simp)
   ·clear hC18
    try simp at hc18
    refine swp_skip ?_
    try simp only [thn, inBlk]
    refine hK15 _ ?_; clear hK15
    have hatw : IntKind.i64.wrap (((bkR (w.take i)).length : Int) + (c : Int) + 1) = ((bkR (w.take i)).length : Int) + ((c : Int) + 1) := by rw [w64 (by omega)]; omega
    refine swp_region ty_ok ?_
    try simp (maxSteps := 1000000) [hatw]
    repeat' (first | apply And.intro | intro _)
    any_goals (first | (refine hK14 _ ?_; clear hK14) | omega | (simp_all <;> omega))
    refine swp_region ty_ok ?_
    try simp (maxSteps := 1000000)
    repeat' apply And.intro
    any_goals (try omega)
    refine hL10 _ ⟨[(0, .yld 6), (1, .ptr 5 0 0 1), (3, .int .i64 (((bkR (w.take i)).length + (c + 1)) : Nat)), (6, .ro (.rows 2 (w.map Sc.row))), (7, .int .i64 (w.length : Nat)), (8, .int .i64 (i : Nat)), (5, .ptr 7 0 0 1), (13, .int .i64 (w[i]?.getD default).len), (14, .int .i64 ((c + 1) : Nat))], [(6, some ⟨.lp L (psOf 100 [(4, .ptr 0 0 0 1), (7, .ptr 1 0 0 1), (11, .ptr 3 0 0 1), (12, .ptr 4 0 0 1)]), true, 0⟩), (0, some ⟨.rows 1 [[.ro (.ints .u8 (D ++ rwB (bkR w) (st[k]?.getD []) a ((bkR (w.take i)).length + (c + 1))))]], true, 22⟩), (1, some ⟨.rows 1 [[.ro (.rows 1 (st.map fun w => [.ro (.ints .i64 w)]))]], true, 56⟩), (2, some ⟨.rows 2 [[.int .i64 (aN (bkR w) (st[k]?.getD []) a ((bkR (w.take i)).length + (c + 1))).1, .int .i64 (aN (bkR w) (st[k]?.getD []) a ((bkR (w.take i)).length + (c + 1))).2]], true, 109⟩), (3, some ⟨.rows 1 [[.ptr 2 0 0 1]], true, 107⟩), (4, some ⟨.rows 1 [[.int .i64 (k : Nat)]], true, 3⟩), (5, some ⟨.rows 1 [[.ro (.rows 2 (w.map Sc.row))]], true, 61⟩), (7, some ⟨.rows 2 [[.int .i64 (w[i]?.getD default).book, .int .i64 (w[i]?.getD default).len]], true, 63⟩)], 8⟩ _ ?_ ⟨(c + 1), by omega, rfl, rfl⟩ ⟨by (simp [getT, PV.lo, lo1, hcw, hatw]; try omega), by (try rw [hs1]; simp [getH, Blk.lo, Cells.lo, lo1, hc1]; (try (repeat' apply And.intro)); all_goals (first | exact hplo | omega)), rfl, by omega⟩
    omega
  ·clear hC13
   try simp at hc13
   refine swp_exit ?_
   simp [thn, inBlk]
   refine hK7 _ ?_; clear hK7
   refine swp_region ty_ok ?_
   try simp (maxSteps := 1000000)
   repeat' apply And.intro
   any_goals (try omega)
   refine hL3 _ ⟨[(0, .yld 6), (1, .ptr 5 0 0 1), (3, .int .i64 ((bkR (w.take (i + 1))).length : Nat)), (6, .ro (.rows 2 (w.map Sc.row))), (7, .int .i64 (w.length : Nat)), (8, .int .i64 ((i + 1) : Nat))], [(6, some ⟨.lp L (psOf 100 [(4, .ptr 0 0 0 1), (7, .ptr 1 0 0 1), (11, .ptr 3 0 0 1), (12, .ptr 4 0 0 1)]), true, 0⟩), (0, some ⟨.rows 1 [[.ro (.ints .u8 (D ++ rwB (bkR w) (st[k]?.getD []) a (bkR (w.take (i + 1))).length))]], true, 22⟩), (1, some ⟨.rows 1 [[.ro (.rows 1 (st.map fun w => [.ro (.ints .i64 w)]))]], true, 56⟩), (2, some ⟨.rows 2 [[.int .i64 (aN (bkR w) (st[k]?.getD []) a (bkR (w.take (i + 1))).length).1, .int .i64 (aN (bkR w) (st[k]?.getD []) a (bkR (w.take (i + 1))).length).2]], true, 109⟩), (3, some ⟨.rows 1 [[.ptr 2 0 0 1]], true, 107⟩), (4, some ⟨.rows 1 [[.int .i64 (k : Nat)]], true, 3⟩), (5, some ⟨.rows 1 [[.ro (.rows 2 (w.map Sc.row))]], true, 61⟩)], 7⟩ _ ?_ ⟨(i + 1), by omega, rfl, rfl⟩ ⟨by (have htl := take_len (w := w) (i := i) (c := c) (by omega) (by omega); simp [getT, PV.lo, lo1, hiw, htl]), by (have htl := take_len (w := w) (i := i) (c := c) (by omega) (by omega); rw [htl]; simp [getH, Blk.lo, Cells.lo, lo1]; try exact hplo8), rfl, by omega⟩
   omega
 ·clear hC6
  try simp at hc6
  refine swp_exit ?_
  simp [thn, inBlk]
  simp [fnPostH, PV.inR, inR1, PV.inL, inL1, Blk.inL, Cells.inL, put_at, Try.results104, resP, tupOf]
  rw [take_all (by omega)]
  refine ⟨fun y hy => ?_, ?_⟩
  ·rcases psOf_mem hy with rfl | ⟨p, hp, rfl⟩
   ·rfl
   ·simp only [List.mem_cons, List.not_mem_nil, or_false] at hp
    rcases hp with rfl | rfl | rfl | rfl <;> simp [inL1]
  ·(repeat' apply And.intro) <;> rfl

set_option maxHeartbeats 8000000 in
theorem put20_ok (bs : List Int) (ga : Int) (l : List (List Sc)) (st : List (List Int)) (hb : bs.length ≤ 200000) (hl : l.length ≤ 1000000) (hw : ∀ w ∈ l, w.length ≤ 1000000) (hst : st.length ≤ 1000000) (hsw : ∀ w ∈ st, w.length ≤ 1000000) : PCall Try.prog 33 [.ro (.ints .u8 bs), .int .i64 ga, .ro (.rows 1 (l.map fun w => [.ro (.rows 2 (w.map Sc.row))])), .ro (.rows 1 (st.map fun w => [.ro (.ints .i64 w)]))] (.tup [.ro (.ints .u8 (if chS ga l st = 0 then bs ++ gB l st ga l.length else [])), .int .i64 (chS ga l st)]) := by
 have hp0 : putL bs 0 0 = bs := by have := putL_nat (b := bs) (n := 0) (s := 0) (by omega) (by omega); simpa [bitsOf] using this
 refine pcall_body ty_ok Try.func33 rfl (by rfl) (by simp) ?_
 rw [Try.ntmps33]
 refine swp_seq fun K1 hK1 => ?_
 refine swp_region ty_ok ?_
 try simp (maxSteps := 1000000)
 repeat' (first | apply And.intro | intro _)
 any_goals (first | (refine hK1 _ ?_; clear hK1) | omega | (simp_all <;> omega))
 refine swp_seq fun K2 hK2 => ?_
 refine swp_seq fun K3 hK3 => ?_
 refine swp_region ty_ok ?_
 refine runs_cut 3 fun R4 hR4 => ?_
 try simp (maxSteps := 1000000) [List.take_succ_cons, List.take_zero, List.drop_succ_cons, List.drop_zero]
 repeat' (first | apply And.intro | intro _)
 any_goals (first | (refine hR4 _ ?_; clear hR4) | omega | (simp_all <;> omega))
 refine runs_cut 1 fun R5 hR5 => ?_
 try simp (maxSteps := 1000000) [List.take_succ_cons, List.take_zero, List.drop_succ_cons, List.drop_zero]
 refine .inl ⟨_, check20_ok ga l st hl hw hst hsw, ?_⟩
 try simp (maxSteps := 1000000)
 repeat' (first | apply And.intro | intro _)
 any_goals (first | (refine hR5 _ ?_; clear hR5) | omega | (simp_all <;> omega))
 try simp (maxSteps := 1000000) [List.take_succ_cons, List.take_zero, List.drop_succ_cons, List.drop_zero]
 repeat' (first | apply And.intro | intro _)
 any_goals (first | (refine hK3 _ ?_; clear hK3) | omega | (simp_all <;> omega))
 refine swp_seq fun K6 hK6 => ?_
 refine swp_region ty_ok ?_
 try simp (maxSteps := 1000000)
 repeat' (first | apply And.intro | intro _)
 any_goals (first | (refine hK6 _ ?_; clear hK6) | omega | (simp_all <;> omega))
 refine swp_if fun C7 hC7 => ?_
 try simp (maxSteps := 1000000)
 refine hC7 _ (fun hc7 => ?_) (fun hc7 => ?_)
 ·clear hC7
  try simp at hc7
  refine swp_seq fun K8 hK8 => ?_
  refine swp_region ty_ok ?_
  try simp (maxSteps := 1000000)
  repeat' (first | apply And.intro | intro _)
  any_goals (first | (refine hK8 _ ?_; clear hK8) | omega | (simp_all <;> omega))
  refine swp_ret ?_
  simp [fnPost, Try.results33, resP, tupOf]
  exact fun h => absurd h (by assumption)
 ·clear hC7
  try simp at hc7
  refine swp_skip ?_
  try simp only [thn, inBlk]
  refine hK2 _ ?_; clear hK2
  refine swp_seq fun K9 hK9 => ?_
  have hz0 := (by assumption : chS ga l st = 0)
  obtain ⟨hmg, hle, hog⟩ := chS_ok hz0
  obtain ⟨hga, hm⟩ := mayG_true hmg
  refine swp_region ty_ok ?_
  refine runs_cut 1 fun R10 hR10 => ?_
  try simp (maxSteps := 1000000) [hp0, List.take_succ_cons, List.take_zero, List.drop_succ_cons, List.drop_zero]
  repeat' (first | apply And.intro | intro _)
  any_goals (first | (refine hR10 _ ?_; clear hR10) | omega | (simp_all <;> omega))
  refine runs_cut 1 fun R11 hR11 => ?_
  try simp (maxSteps := 1000000) [hp0, List.take_succ_cons, List.take_zero, List.drop_succ_cons, List.drop_zero]
  refine .inl ⟨_, put_ok bs 0 0 (by omega) (by omega), ?_⟩
  try simp (maxSteps := 1000000) [hp0]
  repeat' (first | apply And.intro | intro _)
  any_goals (first | (refine hR11 _ ?_; clear hR11) | omega | (simp_all <;> omega))
  try simp (maxSteps := 1000000) [hp0, List.take_succ_cons, List.take_zero, List.drop_succ_cons, List.drop_zero]
  repeat' (first | apply And.intro | intro _)
  any_goals (first | (refine hK9 _ ?_; clear hK9) | omega | (simp_all <;> omega))
  refine swp_seq fun K12 hK12 => ?_
  refine swp_region ty_ok ?_
  try simp (maxSteps := 1000000)
  repeat' (first | apply And.intro | intro _)
  any_goals (first | (refine hK12 _ ?_; clear hK12) | omega | (simp_all <;> omega))
  refine swp_seq fun K13 hK13 => ?_
  refine swp_seq fun K14 hK14 => ?_
  refine swp_region ty_ok ?_
  try simp (maxSteps := 1000000)
  repeat' (first | apply And.intro | intro _)
  any_goals (first | (refine hK14 _ ?_; clear hK14) | omega | (simp_all <;> omega))
  refine swp_block ?_
  refine swp_loop 4 (fun m_ s_ => ∃ (k : Nat), (k ≤ l.length) ∧ s_ = ⟨[(4, .ptr 0 0 0 1), (7, .ptr 1 0 0 1), (11, .ptr 3 0 0 1), (32, .ro (.rows 1 (l.map fun w => [.ro (.rows 2 (w.map Sc.row))]))), (33, .int .i64 (l.length : Nat)), (34, .int .i64 (k : Nat))], [(0, some ⟨.rows 1 [[.ro (.ints .u8 (bs ++ gB l st ga k))]], true, 22⟩), (1, some ⟨.rows 1 [[.ro (.rows 1 (st.map fun w => [.ro (.ints .i64 w)]))]], true, 56⟩), (2, some ⟨.rows 2 [[.int .i64 (gN l st ga k).1, .int .i64 (gN l st ga k).2]], true, 109⟩), (3, some ⟨.rows 1 [[.ptr 2 0 0 1]], true, 107⟩)], 4⟩ ∧ m_ = l.length - k) _ ⟨[(4, .ptr 0 0 0 1), (7, .ptr 1 0 0 1), (11, .ptr 3 0 0 1), (32, .ro (.rows 1 (l.map fun w => [.ro (.rows 2 (w.map Sc.row))]))), (33, .int .i64 (l.length : Nat)), (34, .int .i64 (0 : Nat))], [(0, some ⟨.rows 1 [[.ro (.ints .u8 (bs ++ gB l st ga 0))]], true, 22⟩), (1, some ⟨.rows 1 [[.ro (.rows 1 (st.map fun w => [.ro (.ints .i64 w)]))]], true, 56⟩), (2, some ⟨.rows 2 [[.int .i64 (gN l st ga 0).1, .int .i64 (gN l st ga 0).2]], true, 109⟩), (3, some ⟨.rows 1 [[.ptr 2 0 0 1]], true, 107⟩)], 4⟩ ⟨by simp [getT, PV.lo, lo1], by simp [getH, Blk.lo, Cells.lo, lo1, gN, gB], rfl, by omega⟩ ⟨(0), by omega, rfl, rfl⟩ ?_
  rintro m_ s_ ⟨k, hL15_0, rfl, rfl⟩ KL15 hL15
  have hkw := wnext (i := k) (by omega)
  refine swp_seq fun K16 hK16 => ?_
  refine swp_region ty_ok ?_
  try simp (maxSteps := 1000000)
  repeat' (first | apply And.intro | intro _)
  any_goals (first | (refine hK16 _ ?_; clear hK16) | omega | (simp_all <;> omega))
  refine swp_seq fun K17 hK17 => ?_
  refine swp_if fun C18 hC18 => ?_
  try simp (maxSteps := 1000000)
  refine hC18 _ (fun hc18 => ?_) (fun hc18 => ?_)
  ·clear hC18
   try simp at hc18
   refine swp_skip ?_
   try simp only [thn, inBlk]
   refine hK17 _ ?_; clear hK17
   refine swp_seq fun K19 hK19 => ?_
   refine swp_block ?_
   refine swp_seq fun K20 hK20 => ?_
   have hrowS := s_at (l := l) (k := k) (by omega)
   obtain ⟨hR1, hR2, hR3, hR4⟩ := RW_F (k := k) (by omega) hm
   have hRe : RW l k = bkR (l[k]?.getD []) := rfl
   have hrl : (st[k]?.getD []).length ≤ 1000000 := hsw _ (mem_at (w := st) (j := k) (by omega))
   have hgk := gN_ok ⟨hga.1, hga.2.1⟩ k (oG_mono (by omega) hog)
   obtain ⟨ho1, ho2⟩ := oG_at (k := k) hog (by omega)
   have hgl := gB_len (RW_40 hm) k (oG_mono (by omega) hog)
   rw [hRe] at hR1 ho1 ho2
   refine swp_region ty_ok ?_
   try simp (maxSteps := 1000000) [hrowS]
   repeat' (first | apply And.intro | intro _)
   any_goals (first | (refine hK20 _ ?_; clear hK20) | omega | (simp_all <;> omega))
   refine swp_seq fun K21 hK21 => ?_
   refine swp_region ty_ok ?_
   refine runs_cut 1 fun R22 hR22 => ?_
   try simp (maxSteps := 1000000) [List.take_succ_cons, List.take_zero, List.drop_succ_cons, List.drop_zero]
   repeat' (first | apply And.intro | intro _)
   any_goals (first | (refine hR22 _ ?_; clear hR22) | omega | (simp_all <;> omega))
   try simp (maxSteps := 1000000) [List.take_succ_cons, List.take_zero, List.drop_succ_cons, List.drop_zero]
   refine .inr (hcl_mk (bands_ok 5 (l[k]?.getD [])) (by simp [PV.ids, id1, getH, Blk.inL, Cells.inL, inL1]) (by simp [PV.inL, inL1]) (by simp) ?_)
   try simp (maxSteps := 1000000)
   repeat' (first | apply And.intro | intro _)
   any_goals (first | (refine hK21 _ ?_; clear hK21) | omega | (simp_all <;> omega))
   refine swp_block ?_
   refine swp_rf 104 [.ptr 5 0 0 1] [(4, .ptr 0 0 0 1), (7, .ptr 1 0 0 1), (11, .ptr 3 0 0 1), (12, .ptr 4 0 0 1)] [(0, some ⟨.rows 1 [[.ro (.ints .u8 (bs ++ gB l st ga k))]], true, 22⟩), (1, some ⟨.rows 1 [[.ro (.rows 1 (st.map fun w => [.ro (.ints .i64 w)]))]], true, 56⟩), (2, some ⟨.rows 2 [[.int .i64 (gN l st ga k).1, .int .i64 (gN l st ga k).2]], true, 109⟩), (3, some ⟨.rows 1 [[.ptr 2 0 0 1]], true, 107⟩), (4, some ⟨.rows 1 [[.int .i64 (k : Nat)]], true, 3⟩), (5, some ⟨.rows 1 [[.ro (.rows 2 ((l[k]?.getD []).map Sc.row))]], true, 61⟩)] 7 (.tup []) [(0, some ⟨.rows 1 [[.ro (.ints .u8 ((bs ++ gB l st ga k) ++ rwB (bkR (l[k]?.getD [])) (st[k]?.getD []) (gN l st ga k) (bkR (l[k]?.getD [])).length))]], true, 22⟩), (2, some ⟨.rows 2 [[.int .i64 (aN (bkR (l[k]?.getD [])) (st[k]?.getD []) (gN l st ga k) (bkR (l[k]?.getD [])).length).1, .int .i64 (aN (bkR (l[k]?.getD [])) (st[k]?.getD []) (gN l st ga k) (bkR (l[k]?.getD [])).length).2]], true, 109⟩)] (by simp [getT]) (by simp [getT]) (by intro q; by_cases e0 : 0 = q; (subst e0; simp [getH, s_at]); by_cases e1 : 1 = q; (subst e1; simp [getH, s_at]); by_cases e2 : 2 = q; (subst e2; simp [getH, s_at]); by_cases e3 : 3 = q; (subst e3; simp [getH, s_at]); by_cases e4 : 4 = q; (subst e4; simp [getH, s_at]); by_cases e5 : 5 = q; (subst e5; simp [getH, s_at]); simp [getH, e0, e1, e2, e3, e4, e5]) (by simp) (by simp) (fun L h1 h2 h3 h4 h5 h6 => (by have h := put_by L h1 h2 h3 (h4.trans rfl) (h5.trans rfl) h6 st k (gN l st ga k) (bs ++ gB l st ga k) (by rw [List.length_append]; omega) (by omega) (by omega) hgk (l[k]?.getD []) hR4 hR3 hR1 ⟨by omega, ho2⟩; first | exact h | simpa [rwB, aN] using h)) ?_
   simp only [onL, nxt]
   try simp only [thn, inBlk]
   refine hK19 _ ?_; clear hK19
   refine swp_region ty_ok ?_
   try simp (maxSteps := 1000000)
   repeat' apply And.intro
   any_goals (try omega)
   refine hL15 _ ⟨[(4, .ptr 0 0 0 1), (7, .ptr 1 0 0 1), (11, .ptr 3 0 0 1), (32, .ro (.rows 1 (l.map fun w => [.ro (.rows 2 (w.map Sc.row))]))), (33, .int .i64 (l.length : Nat)), (34, .int .i64 ((k + 1) : Nat))], [(0, some ⟨.rows 1 [[.ro (.ints .u8 (bs ++ gB l st ga (k + 1)))]], true, 22⟩), (1, some ⟨.rows 1 [[.ro (.rows 1 (st.map fun w => [.ro (.ints .i64 w)]))]], true, 56⟩), (2, some ⟨.rows 2 [[.int .i64 (gN l st ga (k + 1)).1, .int .i64 (gN l st ga (k + 1)).2]], true, 109⟩), (3, some ⟨.rows 1 [[.ptr 2 0 0 1]], true, 107⟩)], 4⟩ _ ?_ ⟨(k + 1), by omega, rfl, rfl⟩ ⟨by simp [getT, PV.lo, lo1, hkw], by simp [getH, Blk.lo, Cells.lo, lo1, gN, gB, hRe, List.append_assoc], rfl, by omega⟩
   omega
  ·clear hC18
   try simp at hc18
   refine swp_exit ?_
   simp [thn, inBlk]
   refine hK13 _ ?_; clear hK13
   refine swp_seq fun K23 hK23 => ?_
   refine swp_region ty_ok ?_
   try simp (maxSteps := 1000000)
   repeat' (first | apply And.intro | intro _)
   any_goals (first | (refine hK23 _ ?_; clear hK23) | omega | (simp_all <;> omega))
   refine swp_ret ?_
   simp [fnPost, Try.results33, resP, tupOf]
   have hke : k = l.length := (by omega)
   subst hke
   first | exact ⟨by rw [if_pos hz0], hz0⟩ | exact ⟨fun h => absurd hz0 h, hz0⟩

end Go.Proofs.Ytgheplondkoedaa

