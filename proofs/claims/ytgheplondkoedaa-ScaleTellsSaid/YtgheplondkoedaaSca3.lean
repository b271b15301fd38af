import Derived.Test.YtgheplondkoedaaWf
import Derived.Test.YtgheplondkoedaaTyh
import Derived.Test.YtgheplondkoedaaHbits
import Derived.Test.YtgheplondkoedaaHbits2
import Derived.Test.YtgheplondkoedaaHsrt
import Derived.Test.YtgheplondkoedaaHbk
import Derived.Test.YtgheplondkoedaaSca
import Derived.Test.YtgheplondkoedaaSca2
namespace Go.Proofs.Ytgheplondkoedaa
set_option linter.unusedVariables false
set_option linter.unusedSimpArgs false
set_option maxRecDepth 10000
open Go Go.Pv

theorem aN_succ {bs ns : List Int} {a : Int × Int} {k : Nat} {b : Int} (h : bs[k]?.getD 0 = b) : aN bs ns a (k + 1) = bdN (aN bs ns a k) b (ns[k]?.getD 0) := by rw [aN, h]
theorem take_len {w : List Sc} {i c : Nat} (hi : i < w.length) (hc : (c : Int) = (w[i]?.getD default).len) : (bkR (w.take (i + 1))).length = (bkR (w.take i)).length + c := by
 rw [bkR_succ hi, List.length_append, List.length_replicate]
 omega
theorem take_all {w : List Sc} {i : Nat} (hi : w.length ≤ i) : (bkR (w.take i)).length = (bkR w).length := by rw [List.take_of_length_le hi]

attribute [local simp] runs gd step1 need evu un opnds opv ev cst cst1 cstL getT getH putT onL nxt argT cellsOf PV.one thn inBlk jmp fldP ldP ldC live Cells.len Cells.get Cells.w sug ldv bin eqF eq1 ops2 sh2 binv Tk.agg stC apC rdS apS cpC cpS mvL zp argsP idx fillP toInts chunks mkC ixS ixA oidx slP sl0 slA optL List.append mxF bltn frzA frz frzL frz1 pur1 Cells.pur PV.scal scal1 runD rdO PV.ids id1 zids ety Eff.on cnd minb and1b ifmax ifmin mxv sugI strv w0 w1 w2 wm1
set_option maxHeartbeats 4000000 in
theorem check_ry (st : List (List Int)) (k j : Nat) (a : Int × Int) (w : List Sc) (x : Sc) (b : Int) (hk : k < st.length) (hr : (st[k]?.getD []).length ≤ 1000000) (hj : j ≤ 1000000) (hb : 0 ≤ b) (ha : AOk a) (hj2 : j < (st[k]?.getD []).length) (hbd : bdB a b ((st[k]?.getD [])[j]?.getD 0) = true)  (L : Loop) (hst : L.state = .ready) (hpd : L.pending = none) (hprm : L.params = #[36, 37]) (hasg : L.assign = (rfN Try.f39 0).1) (hbod : L.body = (rfN Try.f39 0).2) (hsz : L.tmps.size = 86) : RCall Try.prog L 7 [.int .i64 (j : Nat), .int .i64 b] [(7, some ⟨.lp L (psOf 86 [(5, .ptr 0 0 0 1), (6, .ptr 1 0 0 1), (7, .ptr 3 0 0 1), (8, .ptr 4 0 0 1), (10, .ptr 5 0 0 1)]), true, 0⟩), (0, some ⟨.rows 1 [[.ro (.rows 1 (st.map fun w => [.ro (.ints .i64 w)]))]], true, 56⟩), (1, some ⟨.rows 1 [[.int .i64 0]], true, 27⟩), (2, some ⟨.rows 2 [[.int .i64 (a).1, .int .i64 (a).2]], true, 109⟩), (3, some ⟨.rows 1 [[.ptr 2 0 0 1]], true, 107⟩), (4, some ⟨.rows 1 [[.int .i64 (k : Nat)]], true, 3⟩), (5, some ⟨.rows 1 [[.int .i64 (j : Nat)]], true, 3⟩), (6, some ⟨.rows 1 [[.ro (.rows 2 (w.map Sc.row))]], true, 61⟩), (8, some ⟨.rows 2 [[.int .i64 x.book, .int .i64 x.len]], true, 63⟩)] 9 [(2, some ⟨.rows 2 [[.int .i64 (bdN a b ((st[k]?.getD [])[j]?.getD 0)).1, .int .i64 (bdN a b ((st[k]?.getD [])[j]?.getD 0)).2]], true, 109⟩), (5, some ⟨.rows 1 [[.int .i64 ((j + 1 : Nat) : Int)]], true, 3⟩)] := by
 have hjw : IntKind.i64.wrap ((j : Int) + 1) = (((j + 1 : Nat)) : Int) := wnext (by omega)
 have hrowT := i_at (l := st) (k := k) hk
 refine rcall_body (nt := 86) (ps := psOf 86 [(5, .ptr 0 0 0 1), (6, .ptr 1 0 0 1), (7, .ptr 3 0 0 1), (8, .ptr 4 0 0 1), (10, .ptr 5 0 0 1)]) (Tt := 0) (tm0 := [(5, .ptr 0 0 0 1), (6, .ptr 1 0 0 1), (7, .ptr 3 0 0 1), (8, .ptr 4 0 0 1), (10, .ptr 5 0 0 1)]) hst hpd (by rw [hprm]; rfl) hsz (psOf_tm (by rfl)) (by simp [getH]) (by simp [Eff.on, put, getH]) (fun ro => ?_)
 rw [hprm, hasg, hbod]
 simp only [List.zip_cons_cons, List.zip_nil_left, List.zip_nil_right, tmA, putT, Nat.reduceLT, if_true]
 refine srp_seq fun K1 hK1 => ?_
 refine srp_region ty_ok ?_
 try simp (maxSteps := 1000000)
 repeat' (first | apply And.intro | intro _)
 any_goals (first | (refine hK1 _ ?_; clear hK1) | omega | (simp_all <;> omega))
 refine srp_region ty_ok ?_
 try simp (maxSteps := 1000000)
 refine ⟨rfl, ?_⟩
 refine srp_block ?_
 refine srp_seq fun K2 hK2 => ?_
 refine srp_region ty_ok ?_
 try simp (maxSteps := 1000000) [hjw]
 repeat' (first | apply And.intro | intro _)
 any_goals (first | (refine hK2 _ ?_; clear hK2) | omega | (simp_all <;> omega))
 refine srp_seq fun K3 hK3 => ?_
 refine srp_draw ty_ok mixed (ms := [0, 0, 0, 6, 14, 30, 63, 127, 255, 511, 1023, 2047, 2047, 8191, 16383, 2047, 65535, 131071, 262143, 524287, 1048575, 2097151, 4194303, 8388607, 16777215, 33554431, 33554431, 33554431, 33554431, 436207615, 973078527, 33554431, 4194303999, 8489271295, 17179869183, 34359738367, 68719476735, 137438953471]) (by kernel_rfl) ?_
 refine runD_cut 11 fun R4 hR4 => ?_
 try simp (maxSteps := 1000000) [hrowT, List.take_succ_cons, List.take_zero, List.drop_succ_cons, List.drop_zero]
 repeat' (first | apply And.intro | intro _)
 any_goals (first | (refine hR4 _ _ _ _ ?_; clear hR4) | omega | (simp_all <;> omega))
 refine runD_cut 11 fun R5 hR5 => ?_
 try simp (maxSteps := 1000000) [hrowT, List.take_succ_cons, List.take_zero, List.drop_succ_cons, List.drop_zero]
 repeat' (first | apply And.intro | intro _)
 any_goals (first | (refine hR5 _ _ _ _ ?_; clear hR5) | omega | (simp_all <;> omega))
 refine runD_cut 12 fun R6 hR6 => ?_
 try simp (maxSteps := 1000000) [hrowT, List.take_succ_cons, List.take_zero, List.drop_succ_cons, List.drop_zero]
 repeat' (first | apply And.intro | intro _)
 any_goals (first | (refine hR6 _ _ _ _ ?_; clear hR6) | omega | (simp_all <;> omega))
 refine runD_cut 1 fun R7 hR7 => ?_
 try simp (maxSteps := 1000000) [hrowT, List.take_succ_cons, List.take_zero, List.drop_succ_cons, List.drop_zero]
 refine .inr ⟨.bool true, [(2, some ⟨.rows 2 [[.int .i64 (bdN a b ((st[k]?.getD [])[j]?.getD 0)).1, .int .i64 (bdN a b ((st[k]?.getD [])[j]?.getD 0)).2]], true, 109⟩)], (by intros; exact Or.inr (hcl_mk (take_yes2 _ a b ((st[k]?.getD [])[j]?.getD 0) ha (tk_yes (by omega) hbd)) (by simp [PV.ids, id1, getH, Blk.inL, Cells.inL, inL1]) (by simp [PV.inL, inL1]) (by simp) ⟨rfl, by rw [bdN_n0 (by omega)]⟩)), (by intros; rename_i hp; simp only [List.mem_cons, List.not_mem_nil, or_false, Prod.mk.injEq] at hp; obtain ⟨rfl, rfl⟩ := hp; have hz := fun h0 : b = 0 => bd_z h0 hbd; have hb0 : b = 0 := (by omega); simp [getH, bdN_00 hb0]), (by intros; rename_i hp; simp only [List.mem_cons, List.not_mem_nil, or_false, Prod.mk.injEq] at hp; obtain ⟨rfl, rfl⟩ := hp; first | rfl | simp), ?_⟩
 repeat' (first | apply And.intro | intro _)
 any_goals (first | (refine hR7 _ _ _ _ ?_; clear hR7) | omega | (simp_all <;> omega))
 try simp (maxSteps := 1000000) [hrowT, List.take_succ_cons, List.take_zero, List.drop_succ_cons, List.drop_zero]
 repeat' (first | apply And.intro | intro _)
 any_goals (first | kernel_rfl | (refine hK3 _ ?_; clear hK3) | omega | (simp_all <;> omega))
 refine srp_if fun C9 hC9 => ?_
 try simp (maxSteps := 1000000) [hrowT]
 refine hC9 _ (fun hc9 => ?_) (fun hc9 => ?_)
 ·exfalso
  have h := hc9
  have hz := fun h0 : b = 0 => bd_z h0 hbd
  simp at h
  omega
 ·clear hC9
  try simp at hc9
  refine srp_skip ?_
  try simp only [thn, inBlk]
  refine ⟨rfl, by simp [getH], ?_⟩
  simp [getH, Eff.on, put, Blk.inL, Cells.inL, inL1]

set_option maxHeartbeats 4000000 in
theorem check_rn (st : List (List Int)) (k j : Nat) (a : Int × Int) (w : List Sc) (x : Sc) (b : Int) (hk : k < st.length) (hr : (st[k]?.getD []).length ≤ 1000000) (hj : j ≤ 1000000) (hb : 0 ≤ b) (ha : AOk a) (hbad : j < (st[k]?.getD []).length → bdB a b ((st[k]?.getD [])[j]?.getD 0) = false)  (L : Loop) (hst : L.state = .ready) (hpd : L.pending = none) (hprm : L.params = #[36, 37]) (hasg : L.assign = (rfN Try.f39 0).1) (hbod : L.body = (rfN Try.f39 0).2) (hsz : L.tmps.size = 86) : RCallJ Try.prog L 7 (psOf 86 [(5, .ptr 0 0 0 1), (6, .ptr 1 0 0 1), (7, .ptr 3 0 0 1), (8, .ptr 4 0 0 1), (10, .ptr 5 0 0 1)]) 0 [.int .i64 (j : Nat), .int .i64 b] [(7, some ⟨.lp L (psOf 86 [(5, .ptr 0 0 0 1), (6, .ptr 1 0 0 1), (7, .ptr 3 0 0 1), (8, .ptr 4 0 0 1), (10, .ptr 5 0 0 1)]), true, 0⟩), (0, some ⟨.rows 1 [[.ro (.rows 1 (st.map fun w => [.ro (.ints .i64 w)]))]], true, 56⟩), (1, some ⟨.rows 1 [[.int .i64 0]], true, 27⟩), (2, some ⟨.rows 2 [[.int .i64 (a).1, .int .i64 (a).2]], true, 109⟩), (3, some ⟨.rows 1 [[.ptr 2 0 0 1]], true, 107⟩), (4, some ⟨.rows 1 [[.int .i64 (k : Nat)]], true, 3⟩), (5, some ⟨.rows 1 [[.int .i64 (j : Nat)]], true, 3⟩), (6, some ⟨.rows 1 [[.ro (.rows 2 (w.map Sc.row))]], true, 61⟩), (8, some ⟨.rows 2 [[.int .i64 x.book, .int .i64 x.len]], true, 63⟩)] 9 [(5, some ⟨.rows 1 [[.int .i64 ((j + 1 : Nat) : Int)]], true, 3⟩), (1, some ⟨.rows 1 [[.int .i64 8]], true, 27⟩)] .ret := by
 have hjw : IntKind.i64.wrap ((j : Int) + 1) = (((j + 1 : Nat)) : Int) := wnext (by omega)
 have hrowT := i_at (l := st) (k := k) hk
 refine rcall_jump (x0 := .ret) rfl (nt := 86) (ps := psOf 86 [(5, .ptr 0 0 0 1), (6, .ptr 1 0 0 1), (7, .ptr 3 0 0 1), (8, .ptr 4 0 0 1), (10, .ptr 5 0 0 1)]) (Tt := 0) (tm0 := [(5, .ptr 0 0 0 1), (6, .ptr 1 0 0 1), (7, .ptr 3 0 0 1), (8, .ptr 4 0 0 1), (10, .ptr 5 0 0 1)]) hst (by rw [hprm]; rfl) hsz (psOf_tm (by rfl)) (by simp [getH]) (by simp) (fun ro => ?_)
 rw [hprm, hasg, hbod]
 simp only [List.zip_cons_cons, List.zip_nil_left, List.zip_nil_right, tmA, putT, Nat.reduceLT, if_true]
 refine srp_seq fun K1 hK1 => ?_
 refine srp_region ty_ok ?_
 try simp (maxSteps := 1000000)
 repeat' (first | apply And.intro | intro _)
 any_goals (first | (refine hK1 _ ?_; clear hK1) | omega | (simp_all <;> omega))
 refine srp_region ty_ok ?_
 try simp (maxSteps := 1000000)
 refine ⟨rfl, ?_⟩
 refine srp_block ?_
 refine srp_seq fun K2 hK2 => ?_
 refine srp_region ty_ok ?_
 try simp (maxSteps := 1000000) [hjw]
 repeat' (first | apply And.intro | intro _)
 any_goals (first | (refine hK2 _ ?_; clear hK2) | omega | (simp_all <;> omega))
 refine srp_seq fun K3 hK3 => ?_
 refine srp_draw ty_ok mixed (ms := [0, 0, 0, 6, 14, 30, 63, 127, 255, 511, 1023, 2047, 2047, 8191, 16383, 2047, 65535, 131071, 262143, 524287, 1048575, 2097151, 4194303, 8388607, 16777215, 33554431, 33554431, 33554431, 33554431, 436207615, 973078527, 33554431, 4194303999, 8489271295, 17179869183, 34359738367, 68719476735, 137438953471]) (by kernel_rfl) ?_
 refine runD_cut 11 fun R4 hR4 => ?_
 try simp (maxSteps := 1000000) [hrowT, List.take_succ_cons, List.take_zero, List.drop_succ_cons, List.drop_zero]
 repeat' (first | apply And.intro | intro _)
 any_goals (first | (refine hR4 _ _ _ _ ?_; clear hR4) | omega | (simp_all <;> omega))
 refine runD_cut 11 fun R5 hR5 => ?_
 try simp (maxSteps := 1000000) [hrowT, List.take_succ_cons, List.take_zero, List.drop_succ_cons, List.drop_zero]
 repeat' (first | apply And.intro | intro _)
 any_goals (first | (refine hR5 _ _ _ _ ?_; clear hR5) | omega | (simp_all <;> omega))
 refine runD_cut 12 fun R6 hR6 => ?_
 try simp (maxSteps := 1000000) [hrowT, List.take_succ_cons, List.take_zero, List.drop_succ_cons, List.drop_zero]
 repeat' (first | apply And.intro | intro _)
 any_goals (first | (refine hR6 _ _ _ _ ?_; clear hR6) | omega | (simp_all <;> omega))
 refine runD_cut 1 fun R7 hR7 => ?_
 try simp (maxSteps := 1000000) [hrowT, List.take_succ_cons, List.take_zero, List.drop_succ_cons, List.drop_zero]
 refine .inr ⟨.bool false, [], (by intros; exact Or.inr (hcl_mk (take_no2 _ a b ((st[k]?.getD [])[j]?.getD 0) ha (tk_no (by omega) (hbad (by omega)))) (by simp [PV.ids, id1, getH, Blk.inL, Cells.inL, inL1]) (by simp [PV.inL, inL1]) (by simp) ⟨rfl, rfl⟩)), (fun hb => by simp), (by simp), ?_⟩
 repeat' (first | apply And.intro | intro _)
 any_goals (first | (refine hR7 _ _ _ _ ?_; clear hR7) | omega | (simp_all <;> omega))
 try simp (maxSteps := 1000000) [hrowT, List.take_succ_cons, List.take_zero, List.drop_succ_cons, List.drop_zero]
 repeat' (first | apply And.intro | intro _)
 any_goals (first | kernel_rfl | (refine hK3 _ ?_; clear hK3) | omega | (simp_all <;> omega))
 refine srp_if fun C9 hC9 => ?_
 try simp (maxSteps := 1000000) [hrowT]
 refine hC9 _ (fun hc9 => ?_) (fun hc9 => ?_)
 ·clear hC9
  try simp at hc9
  refine srp_seq fun K10 hK10 => ?_
  refine srp_region ty_ok ?_
  try simp (maxSteps := 1000000)
  repeat' (first | apply And.intro | intro _)
  any_goals (first | (refine hK10 _ ?_; clear hK10) | omega | (simp_all <;> omega))
  refine srp_ret ?_
  try simp only [thn, inBlk]
  refine ⟨rfl, by simp [getH], ?_⟩
  simp [getH, Eff.on, put, Blk.inL, Cells.inL, inL1]
 ·exfalso
  have h := hc9
  have hz := fun (h0 : b = 0) (h1 : j < (st[k]?.getD []).length) => bd_nz h0 (hbad h1)
  simp at h
  omega

set_option maxHeartbeats 8000000 in
theorem check_by (L : Loop) (hst : L.state = .ready) (hpd : L.pending = none) (hprm : L.params = #[36, 37]) (hasg : L.assign = (rfN Try.f39 0).1) (hbod : L.body = (rfN Try.f39 0).2) (hsz : L.tmps.size = 86) (st : List (List Int)) (k : Nat) (a : Int × Int) (w : List Sc) (hk : k < st.length) (hr : (st[k]?.getD []).length ≤ 1000000) (ha : AOk a) (hw : ∀ x ∈ w, badS x = false) (hwl : w.length ≤ 40) (hbl : (bkR w).length ≤ 40) (hok : (bkR w).length ≤ (st[k]?.getD []).length ∧ oN (bkR w) (st[k]?.getD []) a (bkR w).length = true) : HCall Try.prog 104 [.yld 7, .ptr 6 0 0 1] [(7, some ⟨.lp L (psOf 86 [(5, .ptr 0 0 0 1), (6, .ptr 1 0 0 1), (7, .ptr 3 0 0 1), (8, .ptr 4 0 0 1), (10, .ptr 5 0 0 1)]), true, 0⟩), (0, some ⟨.rows 1 [[.ro (.rows 1 (st.map fun w => [.ro (.ints .i64 w)]))]], true, 56⟩), (1, some ⟨.rows 1 [[.int .i64 0]], true, 27⟩), (2, some ⟨.rows 2 [[.int .i64 (a).1, .int .i64 (a).2]], true, 109⟩), (3, some ⟨.rows 1 [[.ptr 2 0 0 1]], true, 107⟩), (4, some ⟨.rows 1 [[.int .i64 (k : Nat)]], true, 3⟩), (5, some ⟨.rows 1 [[.int .i64 (0 : Nat)]], true, 3⟩), (6, some ⟨.rows 1 [[.ro (.rows 2 (w.map Sc.row))]], true, 61⟩)] 8 (.tup []) [(2, some ⟨.rows 2 [[.int .i64 (aN (bkR w) (st[k]?.getD []) a (bkR w).length).1, .int .i64 (aN (bkR w) (st[k]?.getD []) a (bkR w).length).2]], true, 109⟩), (5, some ⟨.rows 1 [[.int .i64 ((bkR w).length : Nat)]], true, 3⟩)] := by
 have hplo : ∀ y ∈ (psOf 86 [(5, .ptr 0 0 0 1), (6, .ptr 1 0 0 1), (7, .ptr 3 0 0 1), (8, .ptr 4 0 0 1), (10, .ptr 5 0 0 1)]), PV.lo 9 y = true := psOf_lo (by rfl)
 have hplo8 : ∀ y ∈ (psOf 86 [(5, .ptr 0 0 0 1), (6, .ptr 1 0 0 1), (7, .ptr 3 0 0 1), (8, .ptr 4 0 0 1), (10, .ptr 5 0 0 1)]), PV.lo 8 y = true := psOf_lo (by rfl)
 refine hcall_body ty_ok Try.func104 rfl (by rfl) (by simp) ?_
 rw [Try.ntmps104]
 refine swp_seq fun K1 hK1 => ?_
 refine swp_region ty_ok ?_
 try simp (maxSteps := 1000000)
 repeat' (first | apply And.intro | intro _)
 any_goals (first | (refine hK1 _ ?_; clear hK1) | omega | (simp_all <;> omega))
 refine swp_seq fun K2 hK2 => ?_
 refine swp_region ty_ok ?_
 try simp (maxSteps := 1000000)
 repeat' (first | apply And.intro | intro _)
 any_goals (first | (refine hK2 _ ?_; clear hK2) | omega | (simp_all <;> omega))
 refine swp_block ?_
 refine swp_loop 8 (fun m_ s_ => ∃ (i : Nat), (i ≤ w.length) ∧ s_ = ⟨[(0, .yld 7), (1, .ptr 6 0 0 1), (3, .int .i64 ((bkR (w.take i)).length : Nat)), (6, .ro (.rows 2 (w.map Sc.row))), (7, .int .i64 (w.length : Nat)), (8, .int .i64 (i : Nat))], [(7, some ⟨.lp L (psOf 86 [(5, .ptr 0 0 0 1), (6, .ptr 1 0 0 1), (7, .ptr 3 0 0 1), (8, .ptr 4 0 0 1), (10, .ptr 5 0 0 1)]), true, 0⟩), (0, some ⟨.rows 1 [[.ro (.rows 1 (st.map fun w => [.ro (.ints .i64 w)]))]], true, 56⟩), (1, some ⟨.rows 1 [[.int .i64 0]], true, 27⟩), (2, some ⟨.rows 2 [[.int .i64 (aN (bkR w) (st[k]?.getD []) a (bkR (w.take i)).length).1, .int .i64 (aN (bkR w) (st[k]?.getD []) a (bkR (w.take i)).length).2]], true, 109⟩), (3, some ⟨.rows 1 [[.ptr 2 0 0 1]], true, 107⟩), (4, some ⟨.rows 1 [[.int .i64 (k : Nat)]], true, 3⟩), (5, some ⟨.rows 1 [[.int .i64 ((bkR (w.take i)).length : Nat)]], true, 3⟩), (6, some ⟨.rows 1 [[.ro (.rows 2 (w.map Sc.row))]], true, 61⟩)], 8⟩ ∧ m_ = w.length - i) _ ⟨[(0, .yld 7), (1, .ptr 6 0 0 1), (3, .int .i64 ((bkR (w.take 0)).length : Nat)), (6, .ro (.rows 2 (w.map Sc.row))), (7, .int .i64 (w.length : Nat)), (8, .int .i64 (0 : Nat))], [(7, some ⟨.lp L (psOf 86 [(5, .ptr 0 0 0 1), (6, .ptr 1 0 0 1), (7, .ptr 3 0 0 1), (8, .ptr 4 0 0 1), (10, .ptr 5 0 0 1)]), true, 0⟩), (0, some ⟨.rows 1 [[.ro (.rows 1 (st.map fun w => [.ro (.ints .i64 w)]))]], true, 56⟩), (1, some ⟨.rows 1 [[.int .i64 0]], true, 27⟩), (2, some ⟨.rows 2 [[.int .i64 (aN (bkR w) (st[k]?.getD []) a (bkR (w.take 0)).length).1, .int .i64 (aN (bkR w) (st[k]?.getD []) a (bkR (w.take 0)).length).2]], true, 109⟩), (3, some ⟨.rows 1 [[.ptr 2 0 0 1]], true, 107⟩), (4, some ⟨.rows 1 [[.int .i64 (k : Nat)]], true, 3⟩), (5, some ⟨.rows 1 [[.int .i64 ((bkR (w.take 0)).length : Nat)]], true, 3⟩), (6, some ⟨.rows 1 [[.ro (.rows 2 (w.map Sc.row))]], true, 61⟩)], 8⟩ ⟨by simp [getT, argT, PV.lo, lo1, bkR], by (simp [getH, Blk.lo, Cells.lo, lo1, bkR, aN]; try exact hplo8), rfl, by omega⟩ ⟨(0), by omega, rfl, rfl⟩ ?_
 rintro m_ s_ ⟨i, hL3_0, rfl, rfl⟩ KL3 hL3
 have hiw := wnext (i := i) (by omega)
 refine swp_seq fun K4 hK4 => ?_
 refine swp_region ty_ok ?_
 try simp (maxSteps := 1000000)
 repeat' (first | apply And.intro | intro _)
 any_goals (first | (refine hK4 _ ?_; clear hK4) | omega | (simp_all <;> omega))
 refine swp_seq fun K5 hK5 => ?_
 refine swp_if fun C6 hC6 => ?_
 try simp (maxSteps := 1000000)
 refine hC6 _ (fun hc6 => ?_) (fun hc6 => ?_)
 ·clear hC6
  try simp at hc6
  refine swp_skip ?_
  try simp only [thn, inBlk]
  refine hK5 _ ?_; clear hK5
  refine swp_seq fun K7 hK7 => ?_
  refine swp_block ?_
  refine swp_seq fun K8 hK8 => ?_
  have hri := sc_at (ws := w) (k := i) (by omega)
  refine swp_region ty_ok ?_
  try simp (maxSteps := 1000000) [hri]
  repeat' (first | apply And.intro | intro _)
  any_goals (first | (refine hK8 _ ?_; clear hK8) | omega | (simp_all <;> omega))
  refine swp_seq fun K9 hK9 => ?_
  refine swp_region ty_ok ?_
  try simp (maxSteps := 1000000)
  repeat' (first | apply And.intro | intro _)
  any_goals (first | (refine hK9 _ ?_; clear hK9) | omega | (simp_all <;> omega))
  refine swp_block ?_
  have hri := sc_at (ws := w) (k := i) (by omega)
  have hbi := badS_no (hw _ (mem_at (w := w) (j := i) (by omega)))
  have hbi2 : 1 ≤ (w[i]?.getD default).len ∧ (w[i]?.getD default).len ≤ 40 := hbi.1
  refine swp_loop 9 (fun m_ s_ => ∃ (c : Nat), ((c : Int) ≤ (w[i]?.getD default).len) ∧ s_ = ⟨[(0, .yld 7), (1, .ptr 6 0 0 1), (3, .int .i64 (((bkR (w.take i)).length + c) : Nat)), (6, .ro (.rows 2 (w.map Sc.row))), (7, .int .i64 (w.length : Nat)), (8, .int .i64 (i : Nat)), (5, .ptr 8 0 0 1), (13, .int .i64 (w[i]?.getD default).len), (14, .int .i64 (c : Nat))], [(7, some ⟨.lp L (psOf 86 [(5, .ptr 0 0 0 1), (6, .ptr 1 0 0 1), (7, .ptr 3 0 0 1), (8, .ptr 4 0 0 1), (10, .ptr 5 0 0 1)]), true, 0⟩), (0, some ⟨.rows 1 [[.ro (.rows 1 (st.map fun w => [.ro (.ints .i64 w)]))]], true, 56⟩), (1, some ⟨.rows 1 [[.int .i64 0]], true, 27⟩), (2, some ⟨.rows 2 [[.int .i64 (aN (bkR w) (st[k]?.getD []) a ((bkR (w.take i)).length + c)).1, .int .i64 (aN (bkR w) (st[k]?.getD []) a ((bkR (w.take i)).length + c)).2]], true, 109⟩), (3, some ⟨.rows 1 [[.ptr 2 0 0 1]], true, 107⟩), (4, some ⟨.rows 1 [[.int .i64 (k : Nat)]], true, 3⟩), (5, some ⟨.rows 1 [[.int .i64 (((bkR (w.take i)).length + c) : Nat)]], true, 3⟩), (6, some ⟨.rows 1 [[.ro (.rows 2 (w.map Sc.row))]], true, 61⟩), (8, some ⟨.rows 2 [[.int .i64 (w[i]?.getD default).book, .int .i64 (w[i]?.getD default).len]], true, 63⟩)], 9⟩ ∧ m_ = (w[i]?.getD default).len.toNat - c) _ ⟨[(0, .yld 7), (1, .ptr 6 0 0 1), (3, .int .i64 (((bkR (w.take i)).length + 0) : Nat)), (6, .ro (.rows 2 (w.map Sc.row))), (7, .int .i64 (w.length : Nat)), (8, .int .i64 (i : Nat)), (5, .ptr 8 0 0 1), (13, .int .i64 (w[i]?.getD default).len), (14, .int .i64 (0 : Nat))], [(7, some ⟨.lp L (psOf 86 [(5, .ptr 0 0 0 1), (6, .ptr 1 0 0 1), (7, .ptr 3 0 0 1), (8, .ptr 4 0 0 1), (10, .ptr 5 0 0 1)]), true, 0⟩), (0, some ⟨.rows 1 [[.ro (.rows 1 (st.map fun w => [.ro (.ints .i64 w)]))]], true, 56⟩), (1, some ⟨.rows 1 [[.int .i64 0]], true, 27⟩), (2, some ⟨.rows 2 [[.int .i64 (aN (bkR w) (st[k]?.getD []) a ((bkR (w.take i)).length + 0)).1, .int .i64 (aN (bkR w) (st[k]?.getD []) a ((bkR (w.take i)).length + 0)).2]], true, 109⟩), (3, some ⟨.rows 1 [[.ptr 2 0 0 1]], true, 107⟩), (4, some ⟨.rows 1 [[.int .i64 (k : Nat)]], true, 3⟩), (5, some ⟨.rows 1 [[.int .i64 (((bkR (w.take i)).length + 0) : Nat)]], true, 3⟩), (6, some ⟨.rows 1 [[.ro (.rows 2 (w.map Sc.row))]], true, 61⟩), (8, some ⟨.rows 2 [[.int .i64 (w[i]?.getD default).book, .int .i64 (w[i]?.getD default).len]], true, 63⟩)], 9⟩ ⟨by simp [getT, argT, PV.lo, lo1], by (simp [getH, Blk.lo, Cells.lo, lo1]; try exact hplo), rfl, by omega⟩ ⟨(0), by omega, rfl, rfl⟩ ?_
  rintro m_ s_ ⟨c, hL10_0, rfl, rfl⟩ KL10 hL10
  have hcw := wnext (i := c) (by omega)
  refine swp_seq fun K11 hK11 => ?_
  refine swp_region ty_ok ?_
  try simp (maxSteps := 1000000)
  repeat' (first | apply And.intro | intro _)
  any_goals (first | (refine hK11 _ ?_; clear hK11) | omega | (simp_all <;> omega))
  refine swp_seq fun K12 hK12 => ?_
  refine swp_if fun C13 hC13 => ?_
  try simp (maxSteps := 1000000)
  refine hC13 _ (fun hc13 => ?_) (fun hc13 => ?_)
  ·clear hC13
   try simp at hc13
   refine swp_skip ?_
   try simp only [thn, inBlk]
   refine hK12 _ ?_; clear hK12
   refine swp_seq fun K14 hK14 => ?_
   refine swp_block ?_
   refine swp_seq fun K15 hK15 => ?_
   refine swp_seq fun K16 hK16 => ?_
   obtain ⟨hc1, hc2⟩ := bkR_cut (l := w) (i := i) (c := c) (by omega) (by omega)
   have hb0 : 0 ≤ (w[i]?.getD default).book := hbi.2.1
   refine swp_yield ty_ok 4 _ rfl ?_
   try simp (maxSteps := 1000000) [List.take_succ_cons, List.take_zero, List.drop_succ_cons, List.drop_zero, List.take_nil, List.drop_nil]
   have hjR : ((bkR (w.take i)).length + c) < (st[k]?.getD []).length := by omega
   have hoat := oN_mono (k := ((bkR (w.take i)).length + c)) (by omega) hok.2
   have hbdat := oN_at hok.2 hc2
   have hs1 : ((bkR (w.take i)).length + c) + 1 = (bkR (w.take i)).length + (c + 1) := by omega
   refine ⟨16, [17, 19], _, 7, L, (psOf 86 [(5, .ptr 0 0 0 1), (6, .ptr 1 0 0 1), (7, .ptr 3 0 0 1), (8, .ptr 4 0 0 1), (10, .ptr 5 0 0 1)]), 0, [(7, some ⟨.lp L (psOf 86 [(5, .ptr 0 0 0 1), (6, .ptr 1 0 0 1), (7, .ptr 3 0 0 1), (8, .ptr 4 0 0 1), (10, .ptr 5 0 0 1)]), true, 0⟩), (0, some ⟨.rows 1 [[.ro (.rows 1 (st.map fun w => [.ro (.ints .i64 w)]))]], true, 56⟩), (1, some ⟨.rows 1 [[.int .i64 0]], true, 27⟩), (2, some ⟨.rows 2 [[.int .i64 (aN (bkR w) (st[k]?.getD []) a ((bkR (w.take i)).length + c)).1, .int .i64 (aN (bkR w) (st[k]?.getD []) a ((bkR (w.take i)).length + c)).2]], true, 109⟩), (3, some ⟨.rows 1 [[.ptr 2 0 0 1]], true, 107⟩), (4, some ⟨.rows 1 [[.int .i64 (k : Nat)]], true, 3⟩), (5, some ⟨.rows 1 [[.int .i64 (((bkR (w.take i)).length + c) : Nat)]], true, 3⟩), (6, some ⟨.rows 1 [[.ro (.rows 2 (w.map Sc.row))]], true, 61⟩), (8, some ⟨.rows 2 [[.int .i64 (w[i]?.getD default).book, .int .i64 (w[i]?.getD default).len]], true, 63⟩)], 9, [(2, some ⟨.rows 2 [[.int .i64 (aN (bkR w) (st[k]?.getD []) a (((bkR (w.take i)).length + c) + 1)).1, .int .i64 (aN (bkR w) (st[k]?.getD []) a (((bkR (w.take i)).length + c) + 1)).2]], true, 109⟩), (5, some ⟨.rows 1 [[.int .i64 (((((bkR (w.take i)).length + c) + 1 : Nat)) : Int)]], true, 3⟩)], rfl, rfl, by simp [getT], by simp [getH], (by intro id; simp only [getH]; repeat' split <;> simp_all), (by simp), (by have h := check_ry st k ((bkR (w.take i)).length + c) (aN (bkR w) (st[k]?.getD []) a ((bkR (w.take i)).length + c)) w (w[i]?.getD default) (w[i]?.getD default).book hk hr (by omega) hb0 (aN_ok ha _ hoat) hjR (by rw [← hc1]; exact hbdat) L hst hpd hprm hasg hbod hsz; rw [← aN_succ hc1] at h; simpa [getT] using h), ?_⟩
   try simp (maxSteps := 1000000) [List.take_succ_cons, List.take_zero, List.drop_succ_cons, List.drop_zero]
   repeat' (first | apply And.intro | intro _)
   any_goals (first | (refine hK16 _ ?_; clear hK16) | omega | (simp_all <;> omega))
   refine swp_if fun C18 hC18 => ?_
   try simp (maxSteps := 1000000)
   refine hC18 _ (fun hc18 => ?_) (fun hc18 => ?_)
   ·exact absurd hc18 (by simp)
   ·clear hC18
    try simp at hc18
    refine swp_skip ?_
    try simp only [thn, inBlk]
    refine hK15 _ ?_; clear hK15
    have hatw : IntKind.i64.wrap (((bkR (w.take i)).length : Int) + (c : Int) + 1) = ((bkR (w.take i)).length : Int) + ((c : Int) + 1) := by rw [w64 (by omega)]; omega
    refine swp_region ty_ok ?_
    try simp (maxSteps := 1000000) [hatw]
    repeat' (first | apply And.intro | intro _)
    any_goals (first | (refine hK14 _ ?_; clear hK14) | omega | (simp_all <;> omega))
    refine swp_region ty_ok ?_
    try simp (maxSteps := 1000000)
    repeat' apply And.intro
    any_goals (try omega)
    refine hL10 _ ⟨[(0, .yld 7), (1, .ptr 6 0 0 1), (3, .int .i64 (((bkR (w.take i)).length + (c + 1)) : Nat)), (6, .ro (.rows 2 (w.map Sc.row))), (7, .int .i64 (w.length : Nat)), (8, .int .i64 (i : Nat)), (5, .ptr 8 0 0 1), (13, .int .i64 (w[i]?.getD default).len), (14, .int .i64 ((c + 1) : Nat))], [(7, some ⟨.lp L (psOf 86 [(5, .ptr 0 0 0 1), (6, .ptr 1 0 0 1), (7, .ptr 3 0 0 1), (8, .ptr 4 0 0 1), (10, .ptr 5 0 0 1)]), true, 0⟩), (0, some ⟨.rows 1 [[.ro (.rows 1 (st.map fun w => [.ro (.ints .i64 w)]))]], true, 56⟩), (1, some ⟨.rows 1 [[.int .i64 0]], true, 27⟩), (2, some ⟨.rows 2 [[.int .i64 (aN (bkR w) (st[k]?.getD []) a ((bkR (w.take i)).length + (c + 1))).1, .int .i64 (aN (bkR w) (st[k]?.getD []) a ((bkR (w.take i)).length + (c + 1))).2]], true, 109⟩), (3, some ⟨.rows 1 [[.ptr 2 0 0 1]], true, 107⟩), (4, some ⟨.rows 1 [[.int .i64 (k : Nat)]], true, 3⟩), (5, some ⟨.rows 1 [[.int .i64 (((bkR (w.take i)).length + (c + 1)) : Nat)]], true, 3⟩), (6, some ⟨.rows 1 [[.ro (.rows 2 (w.map Sc.row))]], true, 61⟩), (8, some ⟨.rows 2 [[.int .i64 (w[i]?.getD default).book, .int .i64 (w[i]?.getD default).len]], true, 63⟩)], 9⟩ _ ?_ ⟨(c + 1), by omega, rfl, rfl⟩ ⟨by (simp [getT, PV.lo, lo1, hcw, hatw]; try omega), by (try rw [hs1]; simp [getH, Blk.lo, Cells.lo, lo1, hc1]; (try (repeat' apply And.intro)); all_goals (first | exact hplo | omega)), rfl, by omega⟩
    omega
  ·clear hC13
   try simp at hc13
   refine swp_exit ?_
   simp [thn, inBlk]
   refine hK7 _ ?_; clear hK7
   refine swp_region ty_ok ?_
   try simp (maxSteps := 1000000)
   repeat' apply And.intro
   any_goals (try omega)
   refine hL3 _ ⟨[(0, .yld 7), (1, .ptr 6 0 0 1), (3, .int .i64 ((bkR (w.take (i + 1))).length : Nat)), (6, .ro (.rows 2 (w.map Sc.row))), (7, .int .i64 (w.length : Nat)), (8, .int .i64 ((i + 1) : Nat))], [(7, some ⟨.lp L (psOf 86 [(5, .ptr 0 0 0 1), (6, .ptr 1 0 0 1), (7, .ptr 3 0 0 1), (8, .ptr 4 0 0 1), (10, .ptr 5 0 0 1)]), true, 0⟩), (0, some ⟨.rows 1 [[.ro (.rows 1 (st.map fun w => [.ro (.ints .i64 w)]))]], true, 56⟩), (1, some ⟨.rows 1 [[.int .i64 0]], true, 27⟩), (2, some ⟨.rows 2 [[.int .i64 (aN (bkR w) (st[k]?.getD []) a (bkR (w.take (i + 1))).length).1, .int .i64 (aN (bkR w) (st[k]?.getD []) a (bkR (w.take (i + 1))).length).2]], true, 109⟩), (3, some ⟨.rows 1 [[.ptr 2 0 0 1]], true, 107⟩), (4, some ⟨.rows 1 [[.int .i64 (k : Nat)]], true, 3⟩), (5, some ⟨.rows 1 [[.int .i64 ((bkR (w.take (i + 1))).length : Nat)]], true, 3⟩), (6, some ⟨.rows 1 [[.ro (.rows 2 (w.map Sc.row))]], true, 61⟩)], 8⟩ _ ?_ ⟨(i + 1), by omega, rfl, rfl⟩ ⟨by (have htl := take_len (w := w) (i := i) (c := c) (by omega) (by omega); simp [getT, PV.lo, lo1, hiw, htl]), by (have htl := take_len (w := w) (i := i) (c := c) (by omega) (by omega); rw [htl]; simp [getH, Blk.lo, Cells.lo, lo1]; try exact hplo8), rfl, by omega⟩
   omega
 ·clear hC6
  try simp at hc6
  refine swp_exit ?_
  simp [thn, inBlk]
  simp [fnPostH, PV.inR, inR1, PV.inL, inL1, Blk.inL, Cells.inL, put_at, Try.results104, resP, tupOf]
  rw [take_all (by omega)]
  refine ⟨fun y hy => ?_, ?_⟩
  ·rcases psOf_mem hy with rfl | ⟨p, hp, rfl⟩
   ·rfl
   ·simp only [List.mem_cons, List.not_mem_nil, or_false] at hp
    rcases hp with rfl | rfl | rfl | rfl | rfl <;> simp [inL1]
  ·(repeat' apply And.intro) <;> rfl

set_option maxHeartbeats 8000000 in
theorem check_bn (L : Loop) (hst : L.state = .ready) (hpd : L.pending = none) (hprm : L.params = #[36, 37]) (hasg : L.assign = (rfN Try.f39 0).1) (hbod : L.body = (rfN Try.f39 0).2) (hsz : L.tmps.size = 86) (st : List (List Int)) (k : Nat) (a : Int × Int) (w : List Sc) (hk : k < st.length) (hr : (st[k]?.getD []).length ≤ 1000000) (ha : AOk a) (hw : ∀ x ∈ w, badS x = false) (hwl : w.length ≤ 40) (hbl : (bkR w).length ≤ 40) (J : Nat) (j1 : J < (bkR w).length) (j2 : oN (bkR w) (st[k]?.getD []) a J = true) (j3 : J ≤ (st[k]?.getD []).length) (j4 : J < (st[k]?.getD []).length → bdB (aN (bkR w) (st[k]?.getD []) a J) ((bkR w)[J]?.getD 0) ((st[k]?.getD [])[J]?.getD 0) = false) : HCall Try.prog 104 [.yld 7, .ptr 6 0 0 1] [(7, some ⟨.lp L (psOf 86 [(5, .ptr 0 0 0 1), (6, .ptr 1 0 0 1), (7, .ptr 3 0 0 1), (8, .ptr 4 0 0 1), (10, .ptr 5 0 0 1)]), true, 0⟩), (0, some ⟨.rows 1 [[.ro (.rows 1 (st.map fun w => [.ro (.ints .i64 w)]))]], true, 56⟩), (1, some ⟨.rows 1 [[.int .i64 0]], true, 27⟩), (2, some ⟨.rows 2 [[.int .i64 (a).1, .int .i64 (a).2]], true, 109⟩), (3, some ⟨.rows 1 [[.ptr 2 0 0 1]], true, 107⟩), (4, some ⟨.rows 1 [[.int .i64 (k : Nat)]], true, 3⟩), (5, some ⟨.rows 1 [[.int .i64 (0 : Nat)]], true, 3⟩), (6, some ⟨.rows 1 [[.ro (.rows 2 (w.map Sc.row))]], true, 61⟩)] 8 (.tup []) [(7, some ⟨.lp (Lj L .ret) (psOf 86 [(5, .ptr 0 0 0 1), (6, .ptr 1 0 0 1), (7, .ptr 3 0 0 1), (8, .ptr 4 0 0 1), (10, .ptr 5 0 0 1)]), true, 0⟩), (2, some ⟨.rows 2 [[.int .i64 (aN (bkR w) (st[k]?.getD []) a J).1, .int .i64 (aN (bkR w) (st[k]?.getD []) a J).2]], true, 109⟩), (5, some ⟨.rows 1 [[.int .i64 ((J + 1 : Nat) : Int)]], true, 3⟩), (1, some ⟨.rows 1 [[.int .i64 8]], true, 27⟩)] := by
 have hplo : ∀ y ∈ (psOf 86 [(5, .ptr 0 0 0 1), (6, .ptr 1 0 0 1), (7, .ptr 3 0 0 1), (8, .ptr 4 0 0 1), (10, .ptr 5 0 0 1)]), PV.lo 9 y = true := psOf_lo (by rfl)
 have hplo8 : ∀ y ∈ (psOf 86 [(5, .ptr 0 0 0 1), (6, .ptr 1 0 0 1), (7, .ptr 3 0 0 1), (8, .ptr 4 0 0 1), (10, .ptr 5 0 0 1)]), PV.lo 8 y = true := psOf_lo (by rfl)
 refine hcall_body ty_ok Try.func104 rfl (by rfl) (by simp) ?_
 rw [Try.ntmps104]
 refine swp_seq fun K1 hK1 => ?_
 refine swp_region ty_ok ?_
 try simp (maxSteps := 1000000)
 repeat' (first | apply And.intro | intro _)
 any_goals (first | (refine hK1 _ ?_; clear hK1) | omega | (simp_all <;> omega))
 refine swp_seq fun K2 hK2 => ?_
 refine swp_region ty_ok ?_
 try simp (maxSteps := 1000000)
 repeat' (first | apply And.intro | intro _)
 any_goals (first | (refine hK2 _ ?_; clear hK2) | omega | (simp_all <;> omega))
 refine swp_block ?_
 refine swp_loop 8 (fun m_ s_ => ∃ (i : Nat), (i ≤ w.length) ∧ ((bkR (w.take i)).length ≤ J) ∧ s_ = ⟨[(0, .yld 7), (1, .ptr 6 0 0 1), (3, .int .i64 ((bkR (w.take i)).length : Nat)), (6, .ro (.rows 2 (w.map Sc.row))), (7, .int .i64 (w.length : Nat)), (8, .int .i64 (i : Nat))], [(7, some ⟨.lp L (psOf 86 [(5, .ptr 0 0 0 1), (6, .ptr 1 0 0 1), (7, .ptr 3 0 0 1), (8, .ptr 4 0 0 1), (10, .ptr 5 0 0 1)]), true, 0⟩), (0, some ⟨.rows 1 [[.ro (.rows 1 (st.map fun w => [.ro (.ints .i64 w)]))]], true, 56⟩), (1, some ⟨.rows 1 [[.int .i64 0]], true, 27⟩), (2, some ⟨.rows 2 [[.int .i64 (aN (bkR w) (st[k]?.getD []) a (bkR (w.take i)).length).1, .int .i64 (aN (bkR w) (st[k]?.getD []) a (bkR (w.take i)).length).2]], true, 109⟩), (3, some ⟨.rows 1 [[.ptr 2 0 0 1]], true, 107⟩), (4, some ⟨.rows 1 [[.int .i64 (k : Nat)]], true, 3⟩), (5, some ⟨.rows 1 [[.int .i64 ((bkR (w.take i)).length : Nat)]], true, 3⟩), (6, some ⟨.rows 1 [[.ro (.rows 2 (w.map Sc.row))]], true, 61⟩)], 8⟩ ∧ m_ = w.length - i) _ ⟨[(0, .yld 7), (1, .ptr 6 0 0 1), (3, .int .i64 ((bkR (w.take 0)).length : Nat)), (6, .ro (.rows 2 (w.map Sc.row))), (7, .int .i64 (w.length : Nat)), (8, .int .i64 (0 : Nat))], [(7, some ⟨.lp L (psOf 86 [(5, .ptr 0 0 0 1), (6, .ptr 1 0 0 1), (7, .ptr 3 0 0 1), (8, .ptr 4 0 0 1), (10, .ptr 5 0 0 1)]), true, 0⟩), (0, some ⟨.rows 1 [[.ro (.rows 1 (st.map fun w => [.ro (.ints .i64 w)]))]], true, 56⟩), (1, some ⟨.rows 1 [[.int .i64 0]], true, 27⟩), (2, some ⟨.rows 2 [[.int .i64 (aN (bkR w) (st[k]?.getD []) a (bkR (w.take 0)).length).1, .int .i64 (aN (bkR w) (st[k]?.getD []) a (bkR (w.take 0)).length).2]], true, 109⟩), (3, some ⟨.rows 1 [[.ptr 2 0 0 1]], true, 107⟩), (4, some ⟨.rows 1 [[.int .i64 (k : Nat)]], true, 3⟩), (5, some ⟨.rows 1 [[.int .i64 ((bkR (w.take 0)).length : Nat)]], true, 3⟩), (6, some ⟨.rows 1 [[.ro (.rows 2 (w.map Sc.row))]], true, 61⟩)], 8⟩ ⟨by simp [getT, argT, PV.lo, lo1, bkR], by (simp [getH, Blk.lo, Cells.lo, lo1, bkR, aN]; try exact hplo8), rfl, by omega⟩ ⟨(0), by omega, by simp [bkR], rfl, rfl⟩ ?_
 rintro m_ s_ ⟨i, hL3_0, hL3_1, rfl, rfl⟩ KL3 hL3
 have hiw := wnext (i := i) (by omega)
 refine swp_seq fun K4 hK4 => ?_
 refine swp_region ty_ok ?_
 try simp (maxSteps := 1000000)
 repeat' (first | apply And.intro | intro _)
 any_goals (first | (refine hK4 _ ?_; clear hK4) | omega | (simp_all <;> omega))
 refine swp_seq fun K5 hK5 => ?_
 refine swp_if fun C6 hC6 => ?_
 try simp (maxSteps := 1000000)
 refine hC6 _ (fun hc6 => ?_) (fun hc6 => ?_)
 ·clear hC6
  try simp at hc6
  refine swp_skip ?_
  try simp only [thn, inBlk]
  refine hK5 _ ?_; clear hK5
  refine swp_seq fun K7 hK7 => ?_
  refine swp_block ?_
  refine swp_seq fun K8 hK8 => ?_
  have hri := sc_at (ws := w) (k := i) (by omega)
  refine swp_region ty_ok ?_
  try simp (maxSteps := 1000000) [hri]
  repeat' (first | apply And.intro | intro _)
  any_goals (first | (refine hK8 _ ?_; clear hK8) | omega | (simp_all <;> omega))
  refine swp_seq fun K9 hK9 => ?_
  refine swp_region ty_ok ?_
  try simp (maxSteps := 1000000)
  repeat' (first | apply And.intro | intro _)
  any_goals (first | (refine hK9 _ ?_; clear hK9) | omega | (simp_all <;> omega))
  refine swp_block ?_
  have hri := sc_at (ws := w) (k := i) (by omega)
  have hbi := badS_no (hw _ (mem_at (w := w) (j := i) (by omega)))
  have hbi2 : 1 ≤ (w[i]?.getD default).len ∧ (w[i]?.getD default).len ≤ 40 := hbi.1
  refine swp_loop 9 (fun m_ s_ => ∃ (c : Nat), ((c : Int) ≤ (w[i]?.getD default).len) ∧ (((bkR (w.take i)).length + c) ≤ J) ∧ s_ = ⟨[(0, .yld 7), (1, .ptr 6 0 0 1), (3, .int .i64 (((bkR (w.take i)).length + c) : Nat)), (6, .ro (.rows 2 (w.map Sc.row))), (7, .int .i64 (w.length : Nat)), (8, .int .i64 (i : Nat)), (5, .ptr 8 0 0 1), (13, .int .i64 (w[i]?.getD default).len), (14, .int .i64 (c : Nat))], [(7, some ⟨.lp L (psOf 86 [(5, .ptr 0 0 0 1), (6, .ptr 1 0 0 1), (7, .ptr 3 0 0 1), (8, .ptr 4 0 0 1), (10, .ptr 5 0 0 1)]), true, 0⟩), (0, some ⟨.rows 1 [[.ro (.rows 1 (st.map fun w => [.ro (.ints .i64 w)]))]], true, 56⟩), (1, some ⟨.rows 1 [[.int .i64 0]], true, 27⟩), (2, some ⟨.rows 2 [[.int .i64 (aN (bkR w) (st[k]?.getD []) a ((bkR (w.take i)).length + c)).1, .int .i64 (aN (bkR w) (st[k]?.getD []) a ((bkR (w.take i)).length + c)).2]], true, 109⟩), (3, some ⟨.rows 1 [[.ptr 2 0 0 1]], true, 107⟩), (4, some ⟨.rows 1 [[.int .i64 (k : Nat)]], true, 3⟩), (5, some ⟨.rows 1 [[.int .i64 (((bkR (w.take i)).length + c) : Nat)]], true, 3⟩), (6, some ⟨.rows 1 [[.ro (.rows 2 (w.map Sc.row))]], true, 61⟩), (8, some ⟨.rows 2 [[.int .i64 (w[i]?.getD default).book, .int .i64 (w[i]?.getD default).len]], true, 63⟩)], 9⟩ ∧ m_ = (w[i]?.getD default).len.toNat - c) _ ⟨[(0, .yld 7), (1, .ptr 6 0 0 1), (3, .int .i64 (((bkR (w.take i)).length + 0) : Nat)), (6, .ro (.rows 2 (w.map Sc.row))), (7, .int .i64 (w.length : Nat)), (8, .int .i64 (i : Nat)), (5, .ptr 8 0 0 1), (13, .int .i64 (w[i]?.getD default).len), (14, .int .i64 (0 : Nat))], [(7, some ⟨.lp L (psOf 86 [(5, .ptr 0 0 0 1), (6, .ptr 1 0 0 1), (7, .ptr 3 0 0 1), (8, .ptr 4 0 0 1), (10, .ptr 5 0 0 1)]), true, 0⟩), (0, some ⟨.rows 1 [[.ro (.rows 1 (st.map fun w => [.ro (.ints .i64 w)]))]], true, 56⟩), (1, some ⟨.rows 1 [[.int .i64 0]], true, 27⟩), (2, some ⟨.rows 2 [[.int .i64 (aN (bkR w) (st[k]?.getD []) a ((bkR (w.take i)).length + 0)).1, .int .i64 (aN (bkR w) (st[k]?.getD []) a ((bkR (w.take i)).length + 0)).2]], true, 109⟩), (3, some ⟨.rows 1 [[.ptr 2 0 0 1]], true, 107⟩), (4, some ⟨.rows 1 [[.int .i64 (k : Nat)]], true, 3⟩), (5, some ⟨.rows 1 [[.int .i64 (((bkR (w.take i)).length + 0) : Nat)]], true, 3⟩), (6, some ⟨.rows 1 [[.ro (.rows 2 (w.map Sc.row))]], true, 61⟩), (8, some ⟨.rows 2 [[.int .i64 (w[i]?.getD default).book, .int .i64 (w[i]?.getD default).len]], true, 63⟩)], 9⟩ ⟨by simp [getT, argT, PV.lo, lo1], by (simp [getH, Blk.lo, Cells.lo, lo1]; try exact hplo), rfl, by omega⟩ ⟨(0), by omega, by omega, rfl, rfl⟩ ?_
  rintro m_ s_ ⟨c, hL10_0, hL10_1, rfl, rfl⟩ KL10 hL10
  have hcw := wnext (i := c) (by omega)
  refine swp_seq fun K11 hK11 => ?_
  refine swp_region ty_ok ?_
  try simp (maxSteps := 1000000)
  repeat' (first | apply And.intro | intro _)
  any_goals (first | (refine hK11 _ ?_; clear hK11) | omega | (simp_all <;> omega))
  refine swp_seq fun K12 hK12 => ?_
  refine swp_if fun C13 hC13 => ?_
  try simp (maxSteps := 1000000)
  refine hC13 _ (fun hc13 => ?_) (fun hc13 => ?_)
  ·clear hC13
   try simp at hc13
   refine swp_skip ?_
   try simp only [thn, inBlk]
   refine hK12 _ ?_; clear hK12
   refine swp_seq fun K14 hK14 => ?_
   refine swp_block ?_
   refine swp_seq fun K15 hK15 => ?_
   refine swp_seq fun K16 hK16 => ?_
   obtain ⟨hc1, hc2⟩ := bkR_cut (l := w) (i := i) (c := c) (by omega) (by omega)
   have hb0 : 0 ≤ (w[i]?.getD default).book := hbi.2.1
   by_cases hy17 : ((bkR (w.take i)).length + c) < J
   ·
    refine swp_yield ty_ok 4 _ rfl ?_
    try simp (maxSteps := 1000000) [List.take_succ_cons, List.take_zero, List.drop_succ_cons, List.drop_zero, List.take_nil, List.drop_nil]
    have hjR : ((bkR (w.take i)).length + c) < (st[k]?.getD []).length := by omega
    have hoat := oN_mono (k := ((bkR (w.take i)).length + c)) (by omega) j2
    have hbdat := oN_at j2 hy17
    have hs1 : ((bkR (w.take i)).length + c) + 1 = (bkR (w.take i)).length + (c + 1) := by omega
    refine ⟨16, [17, 19], _, 7, L, (psOf 86 [(5, .ptr 0 0 0 1), (6, .ptr 1 0 0 1), (7, .ptr 3 0 0 1), (8, .ptr 4 0 0 1), (10, .ptr 5 0 0 1)]), 0, [(7, some ⟨.lp L (psOf 86 [(5, .ptr 0 0 0 1), (6, .ptr 1 0 0 1), (7, .ptr 3 0 0 1), (8, .ptr 4 0 0 1), (10, .ptr 5 0 0 1)]), true, 0⟩), (0, some ⟨.rows 1 [[.ro (.rows 1 (st.map fun w => [.ro (.ints .i64 w)]))]], true, 56⟩), (1, some ⟨.rows 1 [[.int .i64 0]], true, 27⟩), (2, some ⟨.rows 2 [[.int .i64 (aN (bkR w) (st[k]?.getD []) a ((bkR (w.take i)).length + c)).1, .int .i64 (aN (bkR w) (st[k]?.getD []) a ((bkR (w.take i)).length + c)).2]], true, 109⟩), (3, some ⟨.rows 1 [[.ptr 2 0 0 1]], true, 107⟩), (4, some ⟨.rows 1 [[.int .i64 (k : Nat)]], true, 3⟩), (5, some ⟨.rows 1 [[.int .i64 (((bkR (w.take i)).length + c) : Nat)]], true, 3⟩), (6, some ⟨.rows 1 [[.ro (.rows 2 (w.map Sc.row))]], true, 61⟩), (8, some ⟨.rows 2 [[.int .i64 (w[i]?.getD default).book, .int .i64 (w[i]?.getD default).len]], true, 63⟩)], 9, [(2, some ⟨.rows 2 [[.int .i64 (aN (bkR w) (st[k]?.getD []) a (((bkR (w.take i)).length + c) + 1)).1, .int .i64 (aN (bkR w) (st[k]?.getD []) a (((bkR (w.take i)).length + c) + 1)).2]], true, 109⟩), (5, some ⟨.rows 1 [[.int .i64 (((((bkR (w.take i)).length + c) + 1 : Nat)) : Int)]], true, 3⟩)], rfl, rfl, by simp [getT], by simp [getH], (by intro id; simp only [getH]; repeat' split <;> simp_all), (by simp), (by have h := check_ry st k ((bkR (w.take i)).length + c) (aN (bkR w) (st[k]?.getD []) a ((bkR (w.take i)).length + c)) w (w[i]?.getD default) (w[i]?.getD default).book hk hr (by omega) hb0 (aN_ok ha _ hoat) hjR (by rw [← hc1]; exact hbdat) L hst hpd hprm hasg hbod hsz; rw [← aN_succ hc1] at h; simpa [getT] using h), ?_⟩
    try simp (maxSteps := 1000000) [List.take_succ_cons, List.take_zero, List.drop_succ_cons, List.drop_zero]
    repeat' (first | apply And.intro | intro _)
    any_goals (first | (refine hK16 _ ?_; clear hK16) | omega | (simp_all <;> omega))
    refine swp_if fun C19 hC19 => ?_
    try simp (maxSteps := 1000000)
    refine hC19 _ (fun hc19 => ?_) (fun hc19 => ?_)
    ·exact absurd hc19 (by simp)
    ·clear hC19
     try simp at hc19
     refine swp_skip ?_
     try simp only [thn, inBlk]
     refine hK15 _ ?_; clear hK15
     have hatw : IntKind.i64.wrap (((bkR (w.take i)).length : Int) + (c : Int) + 1) = ((bkR (w.take i)).length : Int) + ((c : Int) + 1) := by rw [w64 (by omega)]; omega
     refine swp_region ty_ok ?_
     try simp (maxSteps := 1000000) [hatw]
     repeat' (first | apply And.intro | intro _)
     any_goals (first | (refine hK14 _ ?_; clear hK14) | omega | (simp_all <;> omega))
     refine swp_region ty_ok ?_
     try simp (maxSteps := 1000000)
     repeat' apply And.intro
     any_goals (try omega)
     refine hL10 _ ⟨[(0, .yld 7), (1, .ptr 6 0 0 1), (3, .int .i64 (((bkR (w.take i)).length + (c + 1)) : Nat)), (6, .ro (.rows 2 (w.map Sc.row))), (7, .int .i64 (w.length : Nat)), (8, .int .i64 (i : Nat)), (5, .ptr 8 0 0 1), (13, .int .i64 (w[i]?.getD default).len), (14, .int .i64 ((c + 1) : Nat))], [(7, some ⟨.lp L (psOf 86 [(5, .ptr 0 0 0 1), (6, .ptr 1 0 0 1), (7, .ptr 3 0 0 1), (8, .ptr 4 0 0 1), (10, .ptr 5 0 0 1)]), true, 0⟩), (0, some ⟨.rows 1 [[.ro (.rows 1 (st.map fun w => [.ro (.ints .i64 w)]))]], true, 56⟩), (1, some ⟨.rows 1 [[.int .i64 0]], true, 27⟩), (2, some ⟨.rows 2 [[.int .i64 (aN (bkR w) (st[k]?.getD []) a ((bkR (w.take i)).length + (c + 1))).1, .int .i64 (aN (bkR w) (st[k]?.getD []) a ((bkR (w.take i)).length + (c + 1))).2]], true, 109⟩), (3, some ⟨.rows 1 [[.ptr 2 0 0 1]], true, 107⟩), (4, some ⟨.rows 1 [[.int .i64 (k : Nat)]], true, 3⟩), (5, some ⟨.rows 1 [[.int .i64 (((bkR (w.take i)).length + (c + 1)) : Nat)]], true, 3⟩), (6, some ⟨.rows 1 [[.ro (.rows 2 (w.map Sc.row))]], true, 61⟩), (8, some ⟨.rows 2 [[.int .i64 (w[i]?.getD default).book, .int .i64 (w[i]?.getD default).len]], true, 63⟩)], 9⟩ _ ?_ ⟨(c + 1), by omega, by omega, rfl, rfl⟩ ⟨by (simp [getT, PV.lo, lo1, hcw, hatw]; try omega), by (try rw [hs1]; simp [getH, Blk.lo, Cells.lo, lo1, hc1]; (try (repeat' apply And.intro)); all_goals (first | exact hplo | omega)), rfl, by omega⟩
     omega
   ·
    refine swp_yieldJ ty_ok 4 _ rfl ?_
    try simp (maxSteps := 1000000) [List.take_succ_cons, List.take_zero, List.drop_succ_cons, List.drop_zero, List.take_nil, List.drop_nil]
    obtain rfl : J = ((bkR (w.take i)).length + c) := by omega
    have hoat := j2
    have hbadj := j4
    rw [hc1] at hbadj
    refine ⟨16, [17, 19], _, 7, L, (psOf 86 [(5, .ptr 0 0 0 1), (6, .ptr 1 0 0 1), (7, .ptr 3 0 0 1), (8, .ptr 4 0 0 1), (10, .ptr 5 0 0 1)]), 0, [(7, some ⟨.lp L (psOf 86 [(5, .ptr 0 0 0 1), (6, .ptr 1 0 0 1), (7, .ptr 3 0 0 1), (8, .ptr 4 0 0 1), (10, .ptr 5 0 0 1)]), true, 0⟩), (0, some ⟨.rows 1 [[.ro (.rows 1 (st.map fun w => [.ro (.ints .i64 w)]))]], true, 56⟩), (1, some ⟨.rows 1 [[.int .i64 0]], true, 27⟩), (2, some ⟨.rows 2 [[.int .i64 (aN (bkR w) (st[k]?.getD []) a ((bkR (w.take i)).length + c)).1, .int .i64 (aN (bkR w) (st[k]?.getD []) a ((bkR (w.take i)).length + c)).2]], true, 109⟩), (3, some ⟨.rows 1 [[.ptr 2 0 0 1]], true, 107⟩), (4, some ⟨.rows 1 [[.int .i64 (k : Nat)]], true, 3⟩), (5, some ⟨.rows 1 [[.int .i64 (((bkR (w.take i)).length + c) : Nat)]], true, 3⟩), (6, some ⟨.rows 1 [[.ro (.rows 2 (w.map Sc.row))]], true, 61⟩), (8, some ⟨.rows 2 [[.int .i64 (w[i]?.getD default).book, .int .i64 (w[i]?.getD default).len]], true, 63⟩)], 9, [(5, some ⟨.rows 1 [[.int .i64 (((((bkR (w.take i)).length + c) + 1 : Nat)) : Int)]], true, 3⟩), (1, some ⟨.rows 1 [[.int .i64 8]], true, 27⟩)], .ret, rfl, rfl, by simp [getT], by simp [getH], (by intro id; simp only [getH]; repeat' split <;> simp_all), (by simp), (by have h := check_rn st k ((bkR (w.take i)).length + c) (aN (bkR w) (st[k]?.getD []) a ((bkR (w.take i)).length + c)) w (w[i]?.getD default) (w[i]?.getD default).book hk hr (by omega) hb0 (aN_ok ha _ hoat) hbadj L hst hpd hprm hasg hbod hsz; simpa [getT] using h), ?_⟩
    try simp (maxSteps := 1000000) [List.take_succ_cons, List.take_zero, List.drop_succ_cons, List.drop_zero]
    repeat' (first | apply And.intro | intro _)
    any_goals (first | (refine hK16 _ ?_; clear hK16) | omega | (simp_all <;> omega))
    refine swp_if fun C21 hC21 => ?_
    try simp (maxSteps := 1000000)
    refine hC21 _ (fun hc21 => ?_) (fun hc21 => ?_)
    ·clear hC21
     try simp at hc21
     refine swp_ret ?_
     simp [fnPostH, PV.inR, inR1, PV.inL, inL1, Blk.inL, Cells.inL, put_at, Try.results104, resP, tupOf]
     intro y hy
     rcases psOf_mem hy with rfl | ⟨p, hp, rfl⟩
     ·rfl
     ·simp only [List.mem_cons, List.not_mem_nil, or_false] at hp
      rcases hp with rfl | rfl | rfl | rfl | rfl <;> simp [inL1]
    ·exact absurd hc21 (by simp)
  ·clear hC13
   try simp at hc13
   refine swp_exit ?_
   simp [thn, inBlk]
   refine hK7 _ ?_; clear hK7
   refine swp_region ty_ok ?_
   try simp (maxSteps := 1000000)
   repeat' apply And.intro
   any_goals (try omega)
   refine hL3 _ ⟨[(0, .yld 7), (1, .ptr 6 0 0 1), (3, .int .i64 ((bkR (w.take (i + 1))).length : Nat)), (6, .ro (.rows 2 (w.map Sc.row))), (7, .int .i64 (w.length : Nat)), (8, .int .i64 ((i + 1) : Nat))], [(7, some ⟨.lp L (psOf 86 [(5, .ptr 0 0 0 1), (6, .ptr 1 0 0 1), (7, .ptr 3 0 0 1), (8, .ptr 4 0 0 1), (10, .ptr 5 0 0 1)]), true, 0⟩), (0, some ⟨.rows 1 [[.ro (.rows 1 (st.map fun w => [.ro (.ints .i64 w)]))]], true, 56⟩), (1, some ⟨.rows 1 [[.int .i64 0]], true, 27⟩), (2, some ⟨.rows 2 [[.int .i64 (aN (bkR w) (st[k]?.getD []) a (bkR (w.take (i + 1))).length).1, .int .i64 (aN (bkR w) (st[k]?.getD []) a (bkR (w.take (i + 1))).length).2]], true, 109⟩), (3, some ⟨.rows 1 [[.ptr 2 0 0 1]], true, 107⟩), (4, some ⟨.rows 1 [[.int .i64 (k : Nat)]], true, 3⟩), (5, some ⟨.rows 1 [[.int .i64 ((bkR (w.take (i + 1))).length : Nat)]], true, 3⟩), (6, some ⟨.rows 1 [[.ro (.rows 2 (w.map Sc.row))]], true, 61⟩)], 8⟩ _ ?_ ⟨(i + 1), by omega, by (have htl := take_len (w := w) (i := i) (c := c) (by omega) (by omega); omega), rfl, rfl⟩ ⟨by (have htl := take_len (w := w) (i := i) (c := c) (by omega) (by omega); simp [getT, PV.lo, lo1, hiw, htl]), by (have htl := take_len (w := w) (i := i) (c := c) (by omega) (by omega); rw [htl]; simp [getH, Blk.lo, Cells.lo, lo1]; try exact hplo8), rfl, by omega⟩
   omega
 ·clear hC6
  try simp at hc6
  refine swp_exit ?_
  simp [thn, inBlk]
  simp [fnPostH, PV.inR, inR1, PV.inL, inL1, Blk.inL, Cells.inL, put_at, Try.results104, resP, tupOf]
  exfalso
  have := take_all (w := w) (i := i) (by omega)
  omega

set_option maxHeartbeats 8000000 in
theorem check20_ok (ga : Int) (l : List (List Sc)) (st : List (List Int)) (hl : l.length ≤ 1000000) (hw : ∀ w ∈ l, w.length ≤ 1000000) (hst : st.length ≤ 1000000) (hsw : ∀ w ∈ st, w.length ≤ 1000000) : PCall Try.prog 39 [.int .i64 ga, .ro (.rows 1 (l.map fun w => [.ro (.rows 2 (w.map Sc.row))])), .ro (.rows 1 (st.map fun w => [.ro (.ints .i64 w)]))] (.int .i64 (chS ga l st)) := by
 refine pcall_body ty_ok Try.func39 rfl (by rfl) (by simp) ?_
 rw [Try.ntmps39]
 refine swp_seq fun K1 hK1 => ?_
 refine swp_region ty_ok ?_
 try simp (maxSteps := 1000000)
 repeat' (first | apply And.intro | intro _)
 any_goals (first | (refine hK1 _ ?_; clear hK1) | omega | (simp_all <;> omega))
 refine swp_seq fun K2 hK2 => ?_
 refine swp_seq fun K3 hK3 => ?_
 refine swp_region ty_ok ?_
 refine runs_cut 2 fun R4 hR4 => ?_
 try simp (maxSteps := 1000000) [List.take_succ_cons, List.take_zero, List.drop_succ_cons, List.drop_zero]
 repeat' (first | apply And.intro | intro _)
 any_goals (first | (refine hR4 _ ?_; clear hR4) | omega | (simp_all <;> omega))
 refine runs_cut 1 fun R5 hR5 => ?_
 try simp (maxSteps := 1000000) [List.take_succ_cons, List.take_zero, List.drop_succ_cons, List.drop_zero]
 refine .inl ⟨_, smay_ok ga l hl hw, ?_⟩
 try simp (maxSteps := 1000000)
 repeat' (first | apply And.intro | intro _)
 any_goals (first | (refine hR5 _ ?_; clear hR5) | omega | (simp_all <;> omega))
 try simp (maxSteps := 1000000) [List.take_succ_cons, List.take_zero, List.drop_succ_cons, List.drop_zero]
 repeat' (first | apply And.intro | intro _)
 any_goals (first | (refine hK3 _ ?_; clear hK3) | omega | (simp_all <;> omega))
 refine swp_if fun C6 hC6 => ?_
 try simp (maxSteps := 1000000)
 refine hC6 _ (fun hc6 => ?_) (fun hc6 => ?_)
 ·clear hC6
  try simp at hc6
  refine swp_seq fun K7 hK7 => ?_
  refine swp_region ty_ok ?_
  try simp (maxSteps := 1000000)
  repeat' (first | apply And.intro | intro _)
  any_goals (first | (refine hK7 _ ?_; clear hK7) | omega | (simp_all <;> omega))
  refine swp_ret ?_
  simp [fnPost, Try.results39, resP, tupOf]
  refine chS_8 ?_
  have h := hc6
  rintro ⟨h1, h2, _⟩
  simp [h1, h2] at h
 ·clear hC6
  try simp at hc6
  refine swp_skip ?_
  try simp only [thn, inBlk]
  refine hK2 _ ?_; clear hK2
  refine swp_seq fun K8 hK8 => ?_
  have hcc := hc6
  have hmg : mayG ga l = true := hcc.1
  have hle : l.length = st.length := (by have h := hcc.2; omega)
  obtain ⟨hga, hm⟩ := mayG_true hmg
  refine swp_region ty_ok ?_
  try simp (maxSteps := 1000000)
  repeat' (first | apply And.intro | intro _)
  any_goals (first | (refine hK8 _ ?_; clear hK8) | omega | (simp_all <;> omega))
  refine swp_seq fun K9 hK9 => ?_
  refine swp_seq fun K10 hK10 => ?_
  refine swp_region ty_ok ?_
  try simp (maxSteps := 1000000)
  repeat' (first | apply And.intro | intro _)
  any_goals (first | (refine hK10 _ ?_; clear hK10) | omega | (simp_all <;> omega))
  refine swp_block ?_
  refine swp_loop 4 (fun m_ s_ => ∃ (k : Nat), (k ≤ l.length) ∧ (oG l st ga k = true) ∧ s_ = ⟨[(5, .ptr 0 0 0 1), (6, .ptr 1 0 0 1), (7, .ptr 3 0 0 1), (27, .ro (.rows 1 (l.map fun w => [.ro (.rows 2 (w.map Sc.row))]))), (28, .int .i64 (l.length : Nat)), (29, .int .i64 (k : Nat))], [(0, some ⟨.rows 1 [[.ro (.rows 1 (st.map fun w => [.ro (.ints .i64 w)]))]], true, 56⟩), (1, some ⟨.rows 1 [[.int .i64 0]], true, 27⟩), (2, some ⟨.rows 2 [[.int .i64 (gN l st ga k).1, .int .i64 (gN l st ga k).2]], true, 109⟩), (3, some ⟨.rows 1 [[.ptr 2 0 0 1]], true, 107⟩)], 4⟩ ∧ m_ = l.length - k) _ ⟨[(5, .ptr 0 0 0 1), (6, .ptr 1 0 0 1), (7, .ptr 3 0 0 1), (27, .ro (.rows 1 (l.map fun w => [.ro (.rows 2 (w.map Sc.row))]))), (28, .int .i64 (l.length : Nat)), (29, .int .i64 (0 : Nat))], [(0, some ⟨.rows 1 [[.ro (.rows 1 (st.map fun w => [.ro (.ints .i64 w)]))]], true, 56⟩), (1, some ⟨.rows 1 [[.int .i64 0]], true, 27⟩), (2, some ⟨.rows 2 [[.int .i64 (gN l st ga 0).1, .int .i64 (gN l st ga 0).2]], true, 109⟩), (3, some ⟨.rows 1 [[.ptr 2 0 0 1]], true, 107⟩)], 4⟩ ⟨by simp [getT, PV.lo, lo1], by simp [getH, Blk.lo, Cells.lo, lo1, gN], rfl, by omega⟩ ⟨(0), by omega, by rfl, rfl, rfl⟩ ?_
  rintro m_ s_ ⟨k, hL11_0, hL11_1, rfl, rfl⟩ KL11 hL11
  have hkw := wnext (i := k) (by omega)
  refine swp_seq fun K12 hK12 => ?_
  refine swp_region ty_ok ?_
  try simp (maxSteps := 1000000)
  repeat' (first | apply And.intro | intro _)
  any_goals (first | (refine hK12 _ ?_; clear hK12) | omega | (simp_all <;> omega))
  refine swp_seq fun K13 hK13 => ?_
  refine swp_if fun C14 hC14 => ?_
  try simp (maxSteps := 1000000)
  refine hC14 _ (fun hc14 => ?_) (fun hc14 => ?_)
  ·clear hC14
   try simp at hc14
   refine swp_skip ?_
   try simp only [thn, inBlk]
   refine hK13 _ ?_; clear hK13
   refine swp_seq fun K15 hK15 => ?_
   refine swp_block ?_
   refine swp_seq fun K16 hK16 => ?_
   have hrowS := s_at (l := l) (k := k) (by omega)
   obtain ⟨hR1, hR2, hR3, hR4⟩ := RW_F (k := k) (by omega) hm
   have hRe : RW l k = bkR (l[k]?.getD []) := rfl
   have hrowT := i_at (l := st) (k := k) (by omega)
   have hrl : (st[k]?.getD []).length ≤ 1000000 := hsw _ (mem_at (w := st) (j := k) (by omega))
   have hgk := gN_ok ⟨hga.1, hga.2.1⟩ k (by assumption)
   rw [hRe] at hR1
   refine swp_region ty_ok ?_
   try simp (maxSteps := 1000000) [hrowS]
   repeat' (first | apply And.intro | intro _)
   any_goals (first | (refine hK16 _ ?_; clear hK16) | omega | (simp_all <;> omega))
   refine swp_seq fun K17 hK17 => ?_
   refine swp_region ty_ok ?_
   try simp (maxSteps := 1000000)
   repeat' (first | apply And.intro | intro _)
   any_goals (first | (refine hK17 _ ?_; clear hK17) | omega | (simp_all <;> omega))
   refine swp_seq fun K18 hK18 => ?_
   refine swp_seq fun K19 hK19 => ?_
   refine swp_region ty_ok ?_
   refine runs_cut 1 fun R20 hR20 => ?_
   try simp (maxSteps := 1000000) [List.take_succ_cons, List.take_zero, List.drop_succ_cons, List.drop_zero]
   repeat' (first | apply And.intro | intro _)
   any_goals (first | (refine hR20 _ ?_; clear hR20) | omega | (simp_all <;> omega))
   try simp (maxSteps := 1000000) [List.take_succ_cons, List.take_zero, List.drop_succ_cons, List.drop_zero]
   refine .inr (hcl_mk (bands_ok 6 (l[k]?.getD [])) (by simp [PV.ids, id1, getH, Blk.inL, Cells.inL, inL1]) (by simp [PV.inL, inL1]) (by simp) ?_)
   try simp (maxSteps := 1000000)
   repeat' (first | apply And.intro | intro _)
   any_goals (first | (refine hK19 _ ?_; clear hK19) | omega | (simp_all <;> omega))
   refine swp_block ?_
   by_cases hy21 : (bkR (l[k]?.getD [])).length ≤ (st[k]?.getD []).length ∧ oN (bkR (l[k]?.getD [])) (st[k]?.getD []) (gN l st ga k) (bkR (l[k]?.getD [])).length = true
   ·
    have hok := hy21
    refine swp_rf 104 [.ptr 6 0 0 1] [(5, .ptr 0 0 0 1), (6, .ptr 1 0 0 1), (7, .ptr 3 0 0 1), (8, .ptr 4 0 0 1), (10, .ptr 5 0 0 1)] [(0, some ⟨.rows 1 [[.ro (.rows 1 (st.map fun w => [.ro (.ints .i64 w)]))]], true, 56⟩), (1, some ⟨.rows 1 [[.int .i64 0]], true, 27⟩), (2, some ⟨.rows 2 [[.int .i64 (gN l st ga k).1, .int .i64 (gN l st ga k).2]], true, 109⟩), (3, some ⟨.rows 1 [[.ptr 2 0 0 1]], true, 107⟩), (4, some ⟨.rows 1 [[.int .i64 (k : Nat)]], true, 3⟩), (5, some ⟨.rows 1 [[.int .i64 ((0 : Nat) : Int)]], true, 3⟩), (6, some ⟨.rows 1 [[.ro (.rows 2 ((l[k]?.getD []).map Sc.row))]], true, 61⟩)] 8 (.tup []) [(2, some ⟨.rows 2 [[.int .i64 (aN (bkR (l[k]?.getD [])) (st[k]?.getD []) (gN l st ga k) (bkR (l[k]?.getD [])).length).1, .int .i64 (aN (bkR (l[k]?.getD [])) (st[k]?.getD []) (gN l st ga k) (bkR (l[k]?.getD [])).length).2]], true, 109⟩), (5, some ⟨.rows 1 [[.int .i64 ((bkR (l[k]?.getD [])).length : Nat)]], true, 3⟩)] (by simp [getT]) (by simp [getT]) (by intro q; by_cases e0 : 0 = q; (subst e0; simp [getH, s_at]); by_cases e1 : 1 = q; (subst e1; simp [getH, s_at]); by_cases e2 : 2 = q; (subst e2; simp [getH, s_at]); by_cases e3 : 3 = q; (subst e3; simp [getH, s_at]); by_cases e4 : 4 = q; (subst e4; simp [getH, s_at]); by_cases e5 : 5 = q; (subst e5; simp [getH, s_at]); by_cases e6 : 6 = q; (subst e6; simp [getH, s_at]); simp [getH, e0, e1, e2, e3, e4, e5, e6]) (by simp) (by simp) (fun L h1 h2 h3 h4 h5 h6 => (by have h := check_by L h1 h2 h3 (h4.trans rfl) (h5.trans rfl) h6 st k (gN l st ga k) (l[k]?.getD []) (by omega) (by omega) hgk hR4 hR3 hR1 hok; first | exact h | simpa using h)) ?_
    simp only [onL, nxt]
    try simp only [thn, inBlk]
    refine hK18 _ ?_; clear hK18
    refine swp_seq fun K22 hK22 => ?_
    refine swp_draw ty_ok mixed (ms := [0, 0, 0, 6, 14, 30, 63]) (by kernel_rfl) ?_
    try simp (maxSteps := 1000000) [hrowT]
    repeat' (first | apply And.intro | intro _)
    any_goals (first | kernel_rfl | (refine hK22 _ ?_; clear hK22) | omega | (simp_all <;> omega))
    refine swp_if fun C24 hC24 => ?_
    try simp (maxSteps := 1000000) [hrowT]
    refine hC24 _ (fun hc24 => ?_) (fun hc24 => ?_)
    ·clear hC24
     try simp at hc24
     refine swp_seq fun K25 hK25 => ?_
     refine swp_region ty_ok ?_
     try simp (maxSteps := 1000000)
     repeat' (first | apply And.intro | intro _)
     any_goals (first | (refine hK25 _ ?_; clear hK25) | omega | (simp_all <;> omega))
     refine swp_ret ?_
     simp [fnPost, Try.results39, resP, tupOf]
     refine chS_k (k := k) (by omega) ?_
     rintro ⟨h1, _⟩
     have h := hc24
     rw [hRe] at h1
     omega
    ·clear hC24
     try simp at hc24
     refine swp_skip ?_
     try simp only [thn, inBlk]
     refine hK15 _ ?_; clear hK15
     refine swp_region ty_ok ?_
     try simp (maxSteps := 1000000)
     repeat' apply And.intro
     any_goals (try omega)
     refine hL11 _ ⟨[(5, .ptr 0 0 0 1), (6, .ptr 1 0 0 1), (7, .ptr 3 0 0 1), (27, .ro (.rows 1 (l.map fun w => [.ro (.rows 2 (w.map Sc.row))]))), (28, .int .i64 (l.length : Nat)), (29, .int .i64 ((k + 1) : Nat))], [(0, some ⟨.rows 1 [[.ro (.rows 1 (st.map fun w => [.ro (.ints .i64 w)]))]], true, 56⟩), (1, some ⟨.rows 1 [[.int .i64 0]], true, 27⟩), (2, some ⟨.rows 2 [[.int .i64 (gN l st ga (k + 1)).1, .int .i64 (gN l st ga (k + 1)).2]], true, 109⟩), (3, some ⟨.rows 1 [[.ptr 2 0 0 1]], true, 107⟩)], 4⟩ _ ?_ ⟨(k + 1), by omega, by (rw [oG, (by assumption : oG l st ga k = true), hRe, decide_eq_true (show (st[k]?.getD []).length = (bkR (l[k]?.getD [])).length by have h := hc24; omega), hok.2]; rfl), rfl, rfl⟩ ⟨by simp [getT, PV.lo, lo1, hkw], by (simp [getH, Blk.lo, Cells.lo, lo1, gN, hRe]), rfl, by omega⟩
     omega
   ·
    obtain ⟨J, j1, j2, j3, j4⟩ := oN_first hy21
    refine swp_rfJ (x0 := .ret) rfl 104 [.ptr 6 0 0 1] [(5, .ptr 0 0 0 1), (6, .ptr 1 0 0 1), (7, .ptr 3 0 0 1), (8, .ptr 4 0 0 1), (10, .ptr 5 0 0 1)] [(0, some ⟨.rows 1 [[.ro (.rows 1 (st.map fun w => [.ro (.ints .i64 w)]))]], true, 56⟩), (1, some ⟨.rows 1 [[.int .i64 0]], true, 27⟩), (2, some ⟨.rows 2 [[.int .i64 (gN l st ga k).1, .int .i64 (gN l st ga k).2]], true, 109⟩), (3, some ⟨.rows 1 [[.ptr 2 0 0 1]], true, 107⟩), (4, some ⟨.rows 1 [[.int .i64 (k : Nat)]], true, 3⟩), (5, some ⟨.rows 1 [[.int .i64 ((0 : Nat) : Int)]], true, 3⟩), (6, some ⟨.rows 1 [[.ro (.rows 2 ((l[k]?.getD []).map Sc.row))]], true, 61⟩)] 8 (.tup []) [(2, some ⟨.rows 2 [[.int .i64 (aN (bkR (l[k]?.getD [])) (st[k]?.getD []) (gN l st ga k) J).1, .int .i64 (aN (bkR (l[k]?.getD [])) (st[k]?.getD []) (gN l st ga k) J).2]], true, 109⟩), (5, some ⟨.rows 1 [[.int .i64 ((J + 1 : Nat) : Int)]], true, 3⟩), (1, some ⟨.rows 1 [[.int .i64 8]], true, 27⟩)] (by simp [getT]) (by simp [getT]) (by intro q; by_cases e0 : 0 = q; (subst e0; simp [getH, s_at]); by_cases e1 : 1 = q; (subst e1; simp [getH, s_at]); by_cases e2 : 2 = q; (subst e2; simp [getH, s_at]); by_cases e3 : 3 = q; (subst e3; simp [getH, s_at]); by_cases e4 : 4 = q; (subst e4; simp [getH, s_at]); by_cases e5 : 5 = q; (subst e5; simp [getH, s_at]); by_cases e6 : 6 = q; (subst e6; simp [getH, s_at]); simp [getH, e0, e1, e2, e3, e4, e5, e6]) (by simp) (by simp) (fun L h1 h2 h3 h4 h5 h6 => (by have h := check_bn L h1 h2 h3 (h4.trans rfl) (h5.trans rfl) h6 st k (gN l st ga k) (l[k]?.getD []) (by omega) (by omega) hgk hR4 hR3 hR1 J j1 j2 j3 j4; first | exact h | simpa using h)) ?_
    simp only [onL, nxt]
    try simp only [thn, inBlk]
    simp [fnPost, Try.results39, resP, tupOf]
    refine chS_k (k := k) (by omega) ?_
    rintro ⟨h1, h2⟩
    rw [hRe] at h1 h2
    exact hy21 ⟨by omega, h2⟩
  ·clear hC14
   try simp at hc14
   refine swp_exit ?_
   simp [thn, inBlk]
   refine hK9 _ ?_; clear hK9
   refine swp_seq fun K26 hK26 => ?_
   refine swp_region ty_ok ?_
   try simp (maxSteps := 1000000)
   repeat' (first | apply And.intro | intro _)
   any_goals (first | (refine hK26 _ ?_; clear hK26) | omega | (simp_all <;> omega))
   refine swp_ret ?_
   simp [fnPost, Try.results39, resP, tupOf]
   exact chS_0 ⟨hmg, hle, by rw [show l.length = k by omega]; assumption⟩

end Go.Proofs.Ytgheplondkoedaa

