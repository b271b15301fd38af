import Derived.Test.YtgheplondkoedaaWf
import Derived.Test.YtgheplondkoedaaTyh
import Derived.Test.YtgheplondkoedaaHbits
import Derived.Test.YtgheplondkoedaaHbits2
import Derived.Test.YtgheplondkoedaaHsrt
import Derived.Test.YtgheplondkoedaaHbk
import Derived.Test.YtgheplondkoedaaHst
import Derived.Test.YtgheplondkoedaaHbk5
import Derived.Test.YtgheplondkoedaaHbk9
import Derived.Test.YtgheplondkoedaaSca
import Derived.Test.YtgheplondkoedaaSca2
import Derived.Test.YtgheplondkoedaaSca3
import Derived.Test.YtgheplondkoedaaSca4
import Derived.Test.YtgheplondkoedaaSca5
import Derived.Test.YtgheplondkoedaaSca6
import Derived.Test.YtgheplondkoedaaSca7
namespace Go.Proofs.Ytgheplondkoedaa
set_option linter.unusedVariables false
set_option linter.unusedSimpArgs false
set_option maxRecDepth 10000
open Go Go.Pv

open Go.RowKit

attribute [local simp] runs gd step1 need evu un opnds opv ev cst cst1 cstL getT getH putT onL nxt argT cellsOf PV.one thn inBlk jmp fldP ldP ldC live Cells.len Cells.get Cells.w sug ldv bin eqF eq1 ops2 sh2 binv Tk.agg stC apC rdS apS cpC cpS mvL zp argsP idx fillP toInts chunks mkC ixS ixA oidx slP sl0 slA optL List.append mxF bltn frzA frz frzL frz1 pur1 Cells.pur PV.scal scal1 runD rdO PV.ids id1 zids ety Eff.on cnd minb and1b ifmax ifmin mxv sugI strv w0 w1 w2 wm1
set_option maxHeartbeats 4000000 in
theorem get_ry (bs : List Int) (hm : bs.length ≤ 1000000) (hp : ∀ y ∈ bs, 0 ≤ y ∧ y ≤ 255) (m : Nat) (T : List (List Int)) (j : Nat) (vs : List Int) (hj : vs.length = j) (hjl : j ≤ 1000) (p : Int) (hpp : 0 ≤ p ∧ p ≤ 1000000) (a : Int × Int) (ha : AOk a) (w : List Sc) (x : Sc) (b : Int) (hb : 0 ≤ b) (hE : r1E bs a b p = 0)  (L : Loop) (hst : L.state = .ready) (hpd : L.pending = none) (hprm : L.params = #[43, 44]) (hasg : L.assign = (rfN Try.f36 0).1) (hbod : L.body = (rfN Try.f36 0).2) (hsz : L.tmps.size = 117) : RCall Try.prog L 10 [.int .i64 (j : Nat), .int .i64 b] [(10, some ⟨.lp L (psOf 117 [(4, .ptr 0 0 0 1), (8, .ptr 1 0 0 1), (9, .ptr 2 0 0 1), (10, .ptr 3 0 0 1), (11, .ptr 5 0 0 1), (14, .ptr 7 0 0 1)]), true, 0⟩), (0, some ⟨.rows 1 [[.ro (.ints .u8 bs)]], true, 22⟩), (1, some ⟨.rows 1 [[.sl 6 0 m m]], true, 56⟩), (2, some ⟨.rows 1 [[.int .i64 p]], true, 3⟩), (3, some ⟨.rows 1 [[.int .i64 0]], true, 27⟩), (4, some ⟨.rows 2 [[.int .i64 (a).1, .int .i64 (a).2]], true, 109⟩), (5, some ⟨.rows 1 [[.ptr 4 0 0 1]], true, 107⟩), (6, some ⟨.rows 1 (T.map fun w => [.ro (.ints .i64 w)]), false, 23⟩), (7, some ⟨.rows 1 [[.sl 9 0 j j]], true, 23⟩), (8, some ⟨.rows 1 [[.ro (.rows 2 (w.map Sc.row))]], true, 61⟩), (9, some ⟨.ints .i64 vs, false, 3⟩), (11, some ⟨.rows 2 [[.int .i64 x.book, .int .i64 x.len]], true, 63⟩)] 12 [(2, some ⟨.rows 1 [[.int .i64 (r1P bs a b p)]], true, 3⟩), (4, some ⟨.rows 2 [[.int .i64 (bdN a b (r1N bs a b p)).1, .int .i64 (bdN a b (r1N bs a b p)).2]], true, 109⟩), (7, some ⟨.rows 1 [[.sl 9 0 (j + 1) (j + 1)]], true, 23⟩), (9, some ⟨.ints .i64 (vs ++ [r1N bs a b p]), false, 3⟩)] := by
 have hp255 : ∀ k : Nat, 0 ≤ bs[k]?.getD 0 ∧ bs[k]?.getD 0 ≤ 255 := fun k => by
  cases hk : bs[k]? with
  | none => exact ⟨by decide, by decide⟩
  | some v => exact hp v (List.mem_of_getElem? hk)
 have hA := ha
 unfold AOk at hA
 have hs60 := st60 (b := bs) (p := p) hp255
 refine rcall_body (nt := 117) (ps := psOf 117 [(4, .ptr 0 0 0 1), (8, .ptr 1 0 0 1), (9, .ptr 2 0 0 1), (10, .ptr 3 0 0 1), (11, .ptr 5 0 0 1), (14, .ptr 7 0 0 1)]) (Tt := 0) (tm0 := [(4, .ptr 0 0 0 1), (8, .ptr 1 0 0 1), (9, .ptr 2 0 0 1), (10, .ptr 3 0 0 1), (11, .ptr 5 0 0 1), (14, .ptr 7 0 0 1)]) hst hpd (by rw [hprm]; rfl) hsz (psOf_tm (by rfl)) (by simp [getH]) (by simp [Eff.on, put, getH]) (fun ro => ?_)
 rw [hprm, hasg, hbod]
 simp only [List.zip_cons_cons, List.zip_nil_left, List.zip_nil_right, tmA, putT, Nat.reduceLT, if_true]
 refine srp_region ty_ok ?_
 try simp (maxSteps := 1000000)
 refine ⟨rfl, ?_⟩
 refine srp_block ?_
 refine srp_seq fun K1 hK1 => ?_
 refine srp_region ty_ok ?_
 try simp (maxSteps := 1000000)
 repeat' (first | apply And.intro | intro _)
 any_goals (first | (refine hK1 _ ?_; clear hK1) | omega | (simp_all <;> omega))
 refine srp_seq fun K2 hK2 => ?_
 refine srp_block ?_
 refine srp_seq fun K3 hK3 => ?_
 refine srp_region ty_ok ?_
 try simp (maxSteps := 1000000)
 repeat' (first | apply And.intro | intro _)
 any_goals (first | (refine hK3 _ ?_; clear hK3) | omega | (simp_all <;> omega))
 refine srp_if fun C4 hC4 => ?_
 try simp (maxSteps := 1000000)
 refine hC4 _ (fun hc4 => ?_) (fun hc4 => ?_)
 ·clear hC4
  try simp at hc4
  have hcc := hc4
  obtain ⟨q1, q2, q3⟩ := r1_n (b := bs) (a := a) (bk := b) (p := p) hcc.1 hcc.2
  rw [hE] at q1
  have htk : tkB a b (r1N bs a b p) = true := (if_neg (show ¬ b = 0 by omega)).symm.trans (r1_ok hp (by have g := getE_zero q1.symm; omega) hE).1
  refine srp_region ty_ok ?_
  refine runs_cut 2 fun R5 hR5 => ?_
  try simp (maxSteps := 1000000) [← q1, ← q2, ← q3, List.take_succ_cons, List.take_zero, List.drop_succ_cons, List.drop_zero]
  repeat' (first | apply And.intro | intro _)
  any_goals (first | (refine hR5 _ ?_; clear hR5) | omega | (simp_all <;> omega))
  refine runs_cut 1 fun R6 hR6 => ?_
  try simp (maxSteps := 1000000) [← q1, ← q2, ← q3, List.take_succ_cons, List.take_zero, List.drop_succ_cons, List.drop_zero]
  refine .inl ⟨_, get_ok bs p 9 (by omega) hp255 (by omega), ?_⟩
  try simp (maxSteps := 1000000) [← q1, ← q2, ← q3]
  repeat' (first | apply And.intro | intro _)
  any_goals (first | (refine hR6 _ ?_; clear hR6) | omega | (simp_all <;> omega))
  try simp (maxSteps := 1000000) [← q1, ← q2, ← q3, List.take_succ_cons, List.take_zero, List.drop_succ_cons, List.drop_zero]
  repeat' (first | apply And.intro | intro _)
  any_goals (first | (refine hK2 _ ?_; clear hK2) | omega | (simp_all <;> omega))
  refine srp_seq fun K7 hK7 => ?_
  refine srp_seq fun K8 hK8 => ?_
  refine srp_region ty_ok ?_
  try simp (maxSteps := 1000000)
  repeat' (first | apply And.intro | intro _)
  any_goals (first | (refine hK8 _ ?_; clear hK8) | omega | (simp_all <;> omega))
  refine srp_if fun C9 hC9 => ?_
  try simp (maxSteps := 1000000)
  refine hC9 _ (fun hc9 => ?_) (fun hc9 => ?_)
  ·exfalso
   have h := hc9
   simp at h
  ·clear hC9
   try simp at hc9
   refine srp_skip ?_
   try simp only [thn, inBlk]
   refine hK7 _ ?_; clear hK7
   refine srp_seq fun K10 hK10 => ?_
   refine srp_seq fun K11 hK11 => ?_
   first | have htk0 := htk | have hz := r1_0 (b := bs) (a := a) (bk := b) (p := p) (by omega)
   refine srp_region ty_ok ?_
   refine runs_cut 6 fun R12 hR12 => ?_
   try simp (maxSteps := 1000000) [List.take_succ_cons, List.take_zero, List.drop_succ_cons, List.drop_zero]
   repeat' (first | apply And.intro | intro _)
   any_goals (first | (refine hR12 _ ?_; clear hR12) | omega | (simp_all <;> omega))
   refine runs_cut 1 fun R13 hR13 => ?_
   try simp (maxSteps := 1000000) [List.take_succ_cons, List.take_zero, List.drop_succ_cons, List.drop_zero]
   refine .inr ⟨.bool true, [(4, some ⟨.rows 2 [[.int .i64 (bdN a b (r1N bs a b p)).1, .int .i64 (bdN a b (r1N bs a b p)).2]], true, 109⟩)], (by intros; first | (exfalso; omega) | exact Or.inr (hcl_mk (take_yes4 _ a b (r1N bs a b p) ha htk) (by simp [PV.ids, id1, getH, Blk.inL, Cells.inL, inL1]) (by simp [PV.inL, inL1]) (by simp) ⟨rfl, by rw [bdN_n0 (by omega)]⟩)), (by intros; rename_i hp; simp only [List.mem_cons, List.not_mem_nil, or_false, Prod.mk.injEq] at hp; obtain ⟨rfl, rfl⟩ := hp; have hb0 : b = 0 := (by omega); simp [getH, bdN_00 hb0]), ?_⟩
   repeat' (first | apply And.intro | intro _)
   any_goals (first | (refine hR13 _ ?_; clear hR13) | omega | (simp_all <;> omega))
   try simp (maxSteps := 1000000) [List.take_succ_cons, List.take_zero, List.drop_succ_cons, List.drop_zero]
   repeat' (first | apply And.intro | intro _)
   any_goals (first | (refine hK11 _ ?_; clear hK11) | omega | (simp_all <;> omega))
   refine srp_if fun C14 hC14 => ?_
   try simp (maxSteps := 1000000)
   refine hC14 _ (fun hc14 => ?_) (fun hc14 => ?_)
   ·exfalso
    have h := hc14
    simp at h
   ·clear hC14
    try simp at hc14
    refine srp_skip ?_
    try simp only [thn, inBlk]
    refine hK10 _ ?_; clear hK10
    refine srp_region ty_ok ?_
    refine runs_cut 2 fun R15 hR15 => ?_
    try simp (maxSteps := 1000000) [List.take_succ_cons, List.take_zero, List.drop_succ_cons, List.drop_zero]
    repeat' (first | apply And.intro | intro _)
    any_goals (first | (refine hR15 _ ?_; clear hR15) | omega | (simp_all <;> omega))
    refine runs_cut 1 fun R16 hR16 => ?_
    try simp (maxSteps := 1000000) [List.take_succ_cons, List.take_zero, List.drop_succ_cons, List.drop_zero]
    repeat' (first | apply And.intro | intro _)
    any_goals (first | (refine Or.inl (hR16 _ ?_); clear hR16) | omega | (simp_all <;> omega))
    try simp (maxSteps := 1000000) [List.take_succ_cons, List.take_zero, List.drop_succ_cons, List.drop_zero]
    refine ⟨by omega, by omega, by omega, ?_⟩
    refine ⟨rfl, by simp [getH], ?_⟩
    simp [getH, Eff.on, put, Blk.inL, Cells.inL, inL1]
    try omega
 ·clear hC4
  try simp at hc4
  refine srp_seq fun K17 hK17 => ?_
  refine srp_region ty_ok ?_
  try simp (maxSteps := 1000000)
  repeat' (first | apply And.intro | intro _)
  any_goals (first | (refine hK17 _ ?_; clear hK17) | omega | (simp_all <;> omega))
  refine srp_if fun C18 hC18 => ?_
  try simp (maxSteps := 1000000)
  refine hC18 _ (fun hc18 => ?_) (fun hc18 => ?_)
  ·clear hC18
   try simp at hc18
   refine srp_seq fun K19 hK19 => ?_
   have hnn : ¬ (b = 13 ∧ a.2 < 0) := by have h := hc18; omega
   obtain ⟨q1, q2, q3⟩ := r1_s (b := bs) (a := a) (bk := b) (p := p) (by omega) hnn
   have hwa : wasI a b = a.2 := if_pos (by omega)
   rw [hwa] at q1 q2
   have hsum : IntKind.i64.wrap (stV bs p + a.2) = a.2 + stV bs p := by rw [w64 (by omega)]; omega
   have hs0 : stE bs p = 0 := (by rw [hE] at q1; by_cases h : stE bs p = 0; exact h; rw [if_neg h] at q1; exact q1.symm)
   have htk : tkB a b (r1N bs a b p) = true := (by rw [hE, if_pos hs0] at q1; rw [q2]; by_cases h : tkB a b (a.2 + stV bs p) = true; exact h; rw [if_neg h] at q1; cases q1)
   refine srp_region ty_ok ?_
   refine runs_cut 2 fun R20 hR20 => ?_
   try simp (maxSteps := 1000000) [hs0, ← q3, List.take_succ_cons, List.take_zero, List.drop_succ_cons, List.drop_zero]
   repeat' (first | apply And.intro | intro _)
   any_goals (first | (refine hR20 _ ?_; clear hR20) | omega | (simp_all <;> omega))
   refine runs_cut 1 fun R21 hR21 => ?_
   try simp (maxSteps := 1000000) [hs0, ← q3, List.take_succ_cons, List.take_zero, List.drop_succ_cons, List.drop_zero]
   refine .inl ⟨_, hstepped_ok bs p (by omega) hp255 (by omega), ?_⟩
   try simp (maxSteps := 1000000) [hs0, ← q3]
   repeat' (first | apply And.intro | intro _)
   any_goals (first | (refine hR21 _ ?_; clear hR21) | omega | (simp_all <;> omega))
   try simp (maxSteps := 1000000) [hs0, ← q3, List.take_succ_cons, List.take_zero, List.drop_succ_cons, List.drop_zero]
   repeat' (first | apply And.intro | intro _)
   any_goals (first | (refine hK19 _ ?_; clear hK19) | omega | (simp_all <;> omega))
   refine srp_region ty_ok ?_
   try simp (maxSteps := 1000000) [hsum, ← q2]
   repeat' (first | apply And.intro | intro _)
   any_goals (first | (refine hK2 _ ?_; clear hK2) | omega | (simp_all <;> omega))
   refine srp_seq fun K22 hK22 => ?_
   refine srp_seq fun K23 hK23 => ?_
   refine srp_region ty_ok ?_
   try simp (maxSteps := 1000000)
   repeat' (first | apply And.intro | intro _)
   any_goals (first | (refine hK23 _ ?_; clear hK23) | omega | (simp_all <;> omega))
   refine srp_if fun C24 hC24 => ?_
   try simp (maxSteps := 1000000)
   refine hC24 _ (fun hc24 => ?_) (fun hc24 => ?_)
   ·exfalso
    have h := hc24
    simp at h
   ·clear hC24
    try simp at hc24
    refine srp_skip ?_
    try simp only [thn, inBlk]
    refine hK22 _ ?_; clear hK22
    refine srp_seq fun K25 hK25 => ?_
    refine srp_seq fun K26 hK26 => ?_
    first | have htk0 := htk | have hz := r1_0 (b := bs) (a := a) (bk := b) (p := p) (by omega)
    refine srp_region ty_ok ?_
    refine runs_cut 6 fun R27 hR27 => ?_
    try simp (maxSteps := 1000000) [List.take_succ_cons, List.take_zero, List.drop_succ_cons, List.drop_zero]
    repeat' (first | apply And.intro | intro _)
    any_goals (first | (refine hR27 _ ?_; clear hR27) | omega | (simp_all <;> omega))
    refine runs_cut 1 fun R28 hR28 => ?_
    try simp (maxSteps := 1000000) [List.take_succ_cons, List.take_zero, List.drop_succ_cons, List.drop_zero]
    refine .inr ⟨.bool true, [(4, some ⟨.rows 2 [[.int .i64 (bdN a b (r1N bs a b p)).1, .int .i64 (bdN a b (r1N bs a b p)).2]], true, 109⟩)], (by intros; first | (exfalso; omega) | exact Or.inr (hcl_mk (take_yes4 _ a b (r1N bs a b p) ha htk) (by simp [PV.ids, id1, getH, Blk.inL, Cells.inL, inL1]) (by simp [PV.inL, inL1]) (by simp) ⟨rfl, by rw [bdN_n0 (by omega)]⟩)), (by intros; rename_i hp; simp only [List.mem_cons, List.not_mem_nil, or_false, Prod.mk.injEq] at hp; obtain ⟨rfl, rfl⟩ := hp; have hb0 : b = 0 := (by omega); simp [getH, bdN_00 hb0]), ?_⟩
    repeat' (first | apply And.intro | intro _)
    any_goals (first | (refine hR28 _ ?_; clear hR28) | omega | (simp_all <;> omega))
    try simp (maxSteps := 1000000) [List.take_succ_cons, List.take_zero, List.drop_succ_cons, List.drop_zero]
    repeat' (first | apply And.intro | intro _)
    any_goals (first | (refine hK26 _ ?_; clear hK26) | omega | (simp_all <;> omega))
    refine srp_if fun C29 hC29 => ?_
    try simp (maxSteps := 1000000)
    refine hC29 _ (fun hc29 => ?_) (fun hc29 => ?_)
    ·exfalso
     have h := hc29
     simp at h
    ·clear hC29
     try simp at hc29
     refine srp_skip ?_
     try simp only [thn, inBlk]
     refine hK25 _ ?_; clear hK25
     refine srp_region ty_ok ?_
     refine runs_cut 2 fun R30 hR30 => ?_
     try simp (maxSteps := 1000000) [List.take_succ_cons, List.take_zero, List.drop_succ_cons, List.drop_zero]
     repeat' (first | apply And.intro | intro _)
     any_goals (first | (refine hR30 _ ?_; clear hR30) | omega | (simp_all <;> omega))
     refine runs_cut 1 fun R31 hR31 => ?_
     try simp (maxSteps := 1000000) [List.take_succ_cons, List.take_zero, List.drop_succ_cons, List.drop_zero]
     repeat' (first | apply And.intro | intro _)
     any_goals (first | (refine Or.inl (hR31 _ ?_); clear hR31) | omega | (simp_all <;> omega))
     try simp (maxSteps := 1000000) [List.take_succ_cons, List.take_zero, List.drop_succ_cons, List.drop_zero]
     refine ⟨by omega, by omega, by omega, ?_⟩
     refine ⟨rfl, by simp [getH], ?_⟩
     simp [getH, Eff.on, put, Blk.inL, Cells.inL, inL1]
     try omega
  ·clear hC18
   try simp at hc18
   refine srp_seq fun K32 hK32 => ?_
   refine srp_region ty_ok ?_
   try simp (maxSteps := 1000000)
   repeat' (first | apply And.intro | intro _)
   any_goals (first | (refine hK32 _ ?_; clear hK32) | omega | (simp_all <;> omega))
   refine srp_if fun C33 hC33 => ?_
   try simp (maxSteps := 1000000)
   refine hC33 _ (fun hc33 => ?_) (fun hc33 => ?_)
   ·clear hC33
    try simp at hc33
    refine srp_seq fun K34 hK34 => ?_
    have hnn : ¬ (b = 13 ∧ a.2 < 0) := by have h := hc33; omega
    obtain ⟨q1, q2, q3⟩ := r1_s (b := bs) (a := a) (bk := b) (p := p) (by omega) hnn
    have hwa : wasI a b = a.1 := if_neg (by omega)
    rw [hwa] at q1 q2
    have hsum : IntKind.i64.wrap (stV bs p + a.1) = a.1 + stV bs p := by rw [w64 (by omega)]; omega
    have hs0 : stE bs p = 0 := (by rw [hE] at q1; by_cases h : stE bs p = 0; exact h; rw [if_neg h] at q1; exact q1.symm)
    have htk : tkB a b (r1N bs a b p) = true := (by rw [hE, if_pos hs0] at q1; rw [q2]; by_cases h : tkB a b (a.1 + stV bs p) = true; exact h; rw [if_neg h] at q1; cases q1)
    refine srp_region ty_ok ?_
    refine runs_cut 2 fun R35 hR35 => ?_
    try simp (maxSteps := 1000000) [hs0, ← q3, List.take_succ_cons, List.take_zero, List.drop_succ_cons, List.drop_zero]
    repeat' (first | apply And.intro | intro _)
    any_goals (first | (refine hR35 _ ?_; clear hR35) | omega | (simp_all <;> omega))
    refine runs_cut 1 fun R36 hR36 => ?_
    try simp (maxSteps := 1000000) [hs0, ← q3, List.take_succ_cons, List.take_zero, List.drop_succ_cons, List.drop_zero]
    refine .inl ⟨_, hstepped_ok bs p (by omega) hp255 (by omega), ?_⟩
    try simp (maxSteps := 1000000) [hs0, ← q3]
    repeat' (first | apply And.intro | intro _)
    any_goals (first | (refine hR36 _ ?_; clear hR36) | omega | (simp_all <;> omega))
    try simp (maxSteps := 1000000) [hs0, ← q3, List.take_succ_cons, List.take_zero, List.drop_succ_cons, List.drop_zero]
    repeat' (first | apply And.intro | intro _)
    any_goals (first | (refine hK34 _ ?_; clear hK34) | omega | (simp_all <;> omega))
    refine srp_region ty_ok ?_
    try simp (maxSteps := 1000000) [hsum, ← q2]
    repeat' (first | apply And.intro | intro _)
    any_goals (first | (refine hK2 _ ?_; clear hK2) | omega | (simp_all <;> omega))
    refine srp_seq fun K37 hK37 => ?_
    refine srp_seq fun K38 hK38 => ?_
    refine srp_region ty_ok ?_
    try simp (maxSteps := 1000000)
    repeat' (first | apply And.intro | intro _)
    any_goals (first | (refine hK38 _ ?_; clear hK38) | omega | (simp_all <;> omega))
    refine srp_if fun C39 hC39 => ?_
    try simp (maxSteps := 1000000)
    refine hC39 _ (fun hc39 => ?_) (fun hc39 => ?_)
    ·exfalso
     have h := hc39
     simp at h
    ·clear hC39
     try simp at hc39
     refine srp_skip ?_
     try simp only [thn, inBlk]
     refine hK37 _ ?_; clear hK37
     refine srp_seq fun K40 hK40 => ?_
     refine srp_seq fun K41 hK41 => ?_
     first | have htk0 := htk | have hz := r1_0 (b := bs) (a := a) (bk := b) (p := p) (by omega)
     refine srp_region ty_ok ?_
     refine runs_cut 6 fun R42 hR42 => ?_
     try simp (maxSteps := 1000000) [List.take_succ_cons, List.take_zero, List.drop_succ_cons, List.drop_zero]
     repeat' (first | apply And.intro | intro _)
     any_goals (first | (refine hR42 _ ?_; clear hR42) | omega | (simp_all <;> omega))
     refine runs_cut 1 fun R43 hR43 => ?_
     try simp (maxSteps := 1000000) [List.take_succ_cons, List.take_zero, List.drop_succ_cons, List.drop_zero]
     refine .inr ⟨.bool true, [(4, some ⟨.rows 2 [[.int .i64 (bdN a b (r1N bs a b p)).1, .int .i64 (bdN a b (r1N bs a b p)).2]], true, 109⟩)], (by intros; first | (exfalso; omega) | exact Or.inr (hcl_mk (take_yes4 _ a b (r1N bs a b p) ha htk) (by simp [PV.ids, id1, getH, Blk.inL, Cells.inL, inL1]) (by simp [PV.inL, inL1]) (by simp) ⟨rfl, by rw [bdN_n0 (by omega)]⟩)), (by intros; rename_i hp; simp only [List.mem_cons, List.not_mem_nil, or_false, Prod.mk.injEq] at hp; obtain ⟨rfl, rfl⟩ := hp; have hb0 : b = 0 := (by omega); simp [getH, bdN_00 hb0]), ?_⟩
     repeat' (first | apply And.intro | intro _)
     any_goals (first | (refine hR43 _ ?_; clear hR43) | omega | (simp_all <;> omega))
     try simp (maxSteps := 1000000) [List.take_succ_cons, List.take_zero, List.drop_succ_cons, List.drop_zero]
     repeat' (first | apply And.intro | intro _)
     any_goals (first | (refine hK41 _ ?_; clear hK41) | omega | (simp_all <;> omega))
     refine srp_if fun C44 hC44 => ?_
     try simp (maxSteps := 1000000)
     refine hC44 _ (fun hc44 => ?_) (fun hc44 => ?_)
     ·exfalso
      have h := hc44
      simp at h
     ·clear hC44
      try simp at hc44
      refine srp_skip ?_
      try simp only [thn, inBlk]
      refine hK40 _ ?_; clear hK40
      refine srp_region ty_ok ?_
      refine runs_cut 2 fun R45 hR45 => ?_
      try simp (maxSteps := 1000000) [List.take_succ_cons, List.take_zero, List.drop_succ_cons, List.drop_zero]
      repeat' (first | apply And.intro | intro _)
      any_goals (first | (refine hR45 _ ?_; clear hR45) | omega | (simp_all <;> omega))
      refine runs_cut 1 fun R46 hR46 => ?_
      try simp (maxSteps := 1000000) [List.take_succ_cons, List.take_zero, List.drop_succ_cons, List.drop_zero]
      repeat' (first | apply And.intro | intro _)
      any_goals (first | (refine Or.inl (hR46 _ ?_); clear hR46) | omega | (simp_all <;> omega))
      try simp (maxSteps := 1000000) [List.take_succ_cons, List.take_zero, List.drop_succ_cons, List.drop_zero]
      refine ⟨by omega, by omega, by omega, ?_⟩
      refine ⟨rfl, by simp [getH], ?_⟩
      simp [getH, Eff.on, put, Blk.inL, Cells.inL, inL1]
      try omega
   ·clear hC33
    try simp at hc33
    refine srp_skip ?_
    try simp only [thn, inBlk]
    refine hK2 _ ?_; clear hK2
    refine srp_seq fun K47 hK47 => ?_
    refine srp_seq fun K48 hK48 => ?_
    refine srp_region ty_ok ?_
    try simp (maxSteps := 1000000)
    repeat' (first | apply And.intro | intro _)
    any_goals (first | (refine hK48 _ ?_; clear hK48) | omega | (simp_all <;> omega))
    refine srp_if fun C49 hC49 => ?_
    try simp (maxSteps := 1000000)
    refine hC49 _ (fun hc49 => ?_) (fun hc49 => ?_)
    ·exfalso
     have h := hc49
     simp at h
    ·clear hC49
     try simp at hc49
     refine srp_skip ?_
     try simp only [thn, inBlk]
     refine hK47 _ ?_; clear hK47
     refine srp_seq fun K50 hK50 => ?_
     refine srp_seq fun K51 hK51 => ?_
     first | have htk0 := htk | have hz := r1_0 (b := bs) (a := a) (bk := b) (p := p) (by omega)
     refine srp_region ty_ok ?_
     refine runs_cut 6 fun R52 hR52 => ?_
     try simp (maxSteps := 1000000) [List.take_succ_cons, List.take_zero, List.drop_succ_cons, List.drop_zero]
     repeat' (first | apply And.intro | intro _)
     any_goals (first | (refine hR52 _ ?_; clear hR52) | omega | (simp_all <;> omega))
     refine runs_cut 1 fun R53 hR53 => ?_
     try simp (maxSteps := 1000000) [List.take_succ_cons, List.take_zero, List.drop_succ_cons, List.drop_zero]
     refine .inr ⟨.bool true, [(4, some ⟨.rows 2 [[.int .i64 (bdN a b (r1N bs a b p)).1, .int .i64 (bdN a b (r1N bs a b p)).2]], true, 109⟩)], (by intros; first | (exfalso; omega) | exact Or.inr (hcl_mk (take_yes4 _ a b (r1N bs a b p) ha htk) (by simp [PV.ids, id1, getH, Blk.inL, Cells.inL, inL1]) (by simp [PV.inL, inL1]) (by simp) ⟨rfl, by rw [bdN_n0 (by omega)]⟩)), (by intros; rename_i hp; simp only [List.mem_cons, List.not_mem_nil, or_false, Prod.mk.injEq] at hp; obtain ⟨rfl, rfl⟩ := hp; have hb0 : b = 0 := (by omega); simp [getH, bdN_00 hb0]), ?_⟩
     repeat' (first | apply And.intro | intro _)
     any_goals (first | (refine hR53 _ ?_; clear hR53) | omega | (simp_all <;> omega))
     try simp (maxSteps := 1000000) [List.take_succ_cons, List.take_zero, List.drop_succ_cons, List.drop_zero]
     repeat' (first | apply And.intro | intro _)
     any_goals (first | (refine hK51 _ ?_; clear hK51) | omega | (simp_all <;> omega))
     refine srp_if fun C54 hC54 => ?_
     try simp (maxSteps := 1000000)
     refine hC54 _ (fun hc54 => ?_) (fun hc54 => ?_)
     ·exfalso
      have h := hc54
      simp at h
     ·clear hC54
      try simp at hc54
      refine srp_skip ?_
      try simp only [thn, inBlk]
      refine hK50 _ ?_; clear hK50
      refine srp_region ty_ok ?_
      refine runs_cut 2 fun R55 hR55 => ?_
      try simp (maxSteps := 1000000) [List.take_succ_cons, List.take_zero, List.drop_succ_cons, List.drop_zero]
      repeat' (first | apply And.intro | intro _)
      any_goals (first | (refine hR55 _ ?_; clear hR55) | omega | (simp_all <;> omega))
      refine runs_cut 1 fun R56 hR56 => ?_
      try simp (maxSteps := 1000000) [List.take_succ_cons, List.take_zero, List.drop_succ_cons, List.drop_zero]
      repeat' (first | apply And.intro | intro _)
      any_goals (first | (refine Or.inl (hR56 _ ?_); clear hR56) | omega | (simp_all <;> omega))
      try simp (maxSteps := 1000000) [List.take_succ_cons, List.take_zero, List.drop_succ_cons, List.drop_zero]
      refine ⟨by omega, by omega, by omega, ?_⟩
      refine ⟨rfl, by simp [getH], ?_⟩
      rw [hz.2.1, hz.2.2, bdN_00 (by omega)]
      simp [getH, Eff.on, put, Blk.inL, Cells.inL, inL1]
      try omega

set_option maxHeartbeats 4000000 in
theorem get_rn (bs : List Int) (hm : bs.length ≤ 1000000) (hp : ∀ y ∈ bs, 0 ≤ y ∧ y ≤ 255) (m : Nat) (T : List (List Int)) (j : Nat) (vs : List Int) (hj : vs.length = j) (hjl : j ≤ 1000) (p : Int) (hpp : 0 ≤ p ∧ p ≤ 1000000) (a : Int × Int) (ha : AOk a) (w : List Sc) (x : Sc) (b : Int) (hb : 0 ≤ b) (e : Int) (hE : r1E bs a b p = e) (he : ¬ e = 0)  (L : Loop) (hst : L.state = .ready) (hpd : L.pending = none) (hprm : L.params = #[43, 44]) (hasg : L.assign = (rfN Try.f36 0).1) (hbod : L.body = (rfN Try.f36 0).2) (hsz : L.tmps.size = 117) : RCallJ Try.prog L 10 (psOf 117 [(4, .ptr 0 0 0 1), (8, .ptr 1 0 0 1), (9, .ptr 2 0 0 1), (10, .ptr 3 0 0 1), (11, .ptr 5 0 0 1), (14, .ptr 7 0 0 1)]) 0 [.int .i64 (j : Nat), .int .i64 b] [(10, some ⟨.lp L (psOf 117 [(4, .ptr 0 0 0 1), (8, .ptr 1 0 0 1), (9, .ptr 2 0 0 1), (10, .ptr 3 0 0 1), (11, .ptr 5 0 0 1), (14, .ptr 7 0 0 1)]), true, 0⟩), (0, some ⟨.rows 1 [[.ro (.ints .u8 bs)]], true, 22⟩), (1, some ⟨.rows 1 [[.sl 6 0 m m]], true, 56⟩), (2, some ⟨.rows 1 [[.int .i64 p]], true, 3⟩), (3, some ⟨.rows 1 [[.int .i64 0]], true, 27⟩), (4, some ⟨.rows 2 [[.int .i64 (a).1, .int .i64 (a).2]], true, 109⟩), (5, some ⟨.rows 1 [[.ptr 4 0 0 1]], true, 107⟩), (6, some ⟨.rows 1 (T.map fun w => [.ro (.ints .i64 w)]), false, 23⟩), (7, some ⟨.rows 1 [[.sl 9 0 j j]], true, 23⟩), (8, some ⟨.rows 1 [[.ro (.rows 2 (w.map Sc.row))]], true, 61⟩), (9, some ⟨.ints .i64 vs, false, 3⟩), (11, some ⟨.rows 2 [[.int .i64 x.book, .int .i64 x.len]], true, 63⟩)] 12 [(1, some ⟨.rows 1 [[.nil (.rows 1 [])]], true, 56⟩), (2, some ⟨.rows 1 [[.int .i64 0]], true, 3⟩), (3, some ⟨.rows 1 [[.int .i64 e]], true, 27⟩)] .ret := by
 have hp255 : ∀ k : Nat, 0 ≤ bs[k]?.getD 0 ∧ bs[k]?.getD 0 ≤ 255 := fun k => by
  cases hk : bs[k]? with
  | none => exact ⟨by decide, by decide⟩
  | some v => exact hp v (List.mem_of_getElem? hk)
 have hA := ha
 unfold AOk at hA
 have hs60 := st60 (b := bs) (p := p) hp255
 refine rcall_jump (x0 := .ret) rfl (nt := 117) (ps := psOf 117 [(4, .ptr 0 0 0 1), (8, .ptr 1 0 0 1), (9, .ptr 2 0 0 1), (10, .ptr 3 0 0 1), (11, .ptr 5 0 0 1), (14, .ptr 7 0 0 1)]) (Tt := 0) (tm0 := [(4, .ptr 0 0 0 1), (8, .ptr 1 0 0 1), (9, .ptr 2 0 0 1), (10, .ptr 3 0 0 1), (11, .ptr 5 0 0 1), (14, .ptr 7 0 0 1)]) hst (by rw [hprm]; rfl) hsz (psOf_tm (by rfl)) (by simp [getH]) (by simp) (fun ro => ?_)
 rw [hprm, hasg, hbod]
 simp only [List.zip_cons_cons, List.zip_nil_left, List.zip_nil_right, tmA, putT, Nat.reduceLT, if_true]
 refine srp_region ty_ok ?_
 try simp (maxSteps := 1000000)
 refine ⟨rfl, ?_⟩
 refine srp_block ?_
 refine srp_seq fun K1 hK1 => ?_
 refine srp_region ty_ok ?_
 try simp (maxSteps := 1000000)
 repeat' (first | apply And.intro | intro _)
 any_goals (first | (refine hK1 _ ?_; clear hK1) | omega | (simp_all <;> omega))
 refine srp_seq fun K2 hK2 => ?_
 refine srp_block ?_
 refine srp_seq fun K3 hK3 => ?_
 refine srp_region ty_ok ?_
 try simp (maxSteps := 1000000)
 repeat' (first | apply And.intro | intro _)
 any_goals (first | (refine hK3 _ ?_; clear hK3) | omega | (simp_all <;> omega))
 refine srp_if fun C4 hC4 => ?_
 try simp (maxSteps := 1000000)
 refine hC4 _ (fun hc4 => ?_) (fun hc4 => ?_)
 ·clear hC4
  try simp at hc4
  have hcc := hc4
  obtain ⟨q1, q2, q3⟩ := r1_n (b := bs) (a := a) (bk := b) (p := p) hcc.1 hcc.2
  rw [hE] at q1
  refine srp_region ty_ok ?_
  refine runs_cut 2 fun R5 hR5 => ?_
  try simp (maxSteps := 1000000) [← q1, List.take_succ_cons, List.take_zero, List.drop_succ_cons, List.drop_zero]
  repeat' (first | apply And.intro | intro _)
  any_goals (first | (refine hR5 _ ?_; clear hR5) | omega | (simp_all <;> omega))
  refine runs_cut 1 fun R6 hR6 => ?_
  try simp (maxSteps := 1000000) [← q1, List.take_succ_cons, List.take_zero, List.drop_succ_cons, List.drop_zero]
  refine .inl ⟨_, get_ok bs p 9 (by omega) hp255 (by omega), ?_⟩
  try simp (maxSteps := 1000000) [← q1]
  repeat' (first | apply And.intro | intro _)
  any_goals (first | (refine hR6 _ ?_; clear hR6) | omega | (simp_all <;> omega))
  try simp (maxSteps := 1000000) [← q1, List.take_succ_cons, List.take_zero, List.drop_succ_cons, List.drop_zero]
  repeat' (first | apply And.intro | intro _)
  any_goals (first | (refine hK2 _ ?_; clear hK2) | omega | (simp_all <;> omega))
  refine srp_seq fun K7 hK7 => ?_
  refine srp_seq fun K8 hK8 => ?_
  refine srp_region ty_ok ?_
  try simp (maxSteps := 1000000)
  repeat' (first | apply And.intro | intro _)
  any_goals (first | (refine hK8 _ ?_; clear hK8) | omega | (simp_all <;> omega))
  refine srp_if fun C9 hC9 => ?_
  try simp (maxSteps := 1000000)
  refine hC9 _ (fun hc9 => ?_) (fun hc9 => ?_)
  ·clear hC9
   try simp at hc9
   refine srp_seq fun K10 hK10 => ?_
   refine srp_draw ty_ok mixed (ms := [0, 0, 2, 7]) (by kernel_rfl) ?_
   try simp (maxSteps := 1000000)
   repeat' (first | apply And.intro | intro _)
   any_goals (first | kernel_rfl | (refine hK10 _ ?_; clear hK10) | omega | (simp_all <;> omega))
   refine srp_ret ?_
   try simp only [thn, inBlk]
   refine ⟨rfl, by simp [getH], ?_⟩
   simp [getH, Eff.on, put, Blk.inL, Cells.inL, inL1]
  ·exfalso
   have h := hc9
   simp at h
   first | exact he h | exact he (q1.trans h)
 ·clear hC4
  try simp at hc4
  refine srp_seq fun K12 hK12 => ?_
  refine srp_region ty_ok ?_
  try simp (maxSteps := 1000000)
  repeat' (first | apply And.intro | intro _)
  any_goals (first | (refine hK12 _ ?_; clear hK12) | omega | (simp_all <;> omega))
  refine srp_if fun C13 hC13 => ?_
  try simp (maxSteps := 1000000)
  refine hC13 _ (fun hc13 => ?_) (fun hc13 => ?_)
  ·clear hC13
   try simp at hc13
   refine srp_seq fun K14 hK14 => ?_
   have hnn : ¬ (b = 13 ∧ a.2 < 0) := by have h := hc13; omega
   obtain ⟨q1, q2, q3⟩ := r1_s (b := bs) (a := a) (bk := b) (p := p) (by omega) hnn
   have hwa : wasI a b = a.2 := if_pos (by omega)
   rw [hwa] at q1 q2
   have hsum : IntKind.i64.wrap (stV bs p + a.2) = a.2 + stV bs p := by rw [w64 (by omega)]; omega
   refine srp_region ty_ok ?_
   refine runs_cut 2 fun R15 hR15 => ?_
   try simp (maxSteps := 1000000) [List.take_succ_cons, List.take_zero, List.drop_succ_cons, List.drop_zero]
   repeat' (first | apply And.intro | intro _)
   any_goals (first | (refine hR15 _ ?_; clear hR15) | omega | (simp_all <;> omega))
   refine runs_cut 1 fun R16 hR16 => ?_
   try simp (maxSteps := 1000000) [List.take_succ_cons, List.take_zero, List.drop_succ_cons, List.drop_zero]
   refine .inl ⟨_, hstepped_ok bs p (by omega) hp255 (by omega), ?_⟩
   try simp (maxSteps := 1000000)
   repeat' (first | apply And.intro | intro _)
   any_goals (first | (refine hR16 _ ?_; clear hR16) | omega | (simp_all <;> omega))
   try simp (maxSteps := 1000000) [List.take_succ_cons, List.take_zero, List.drop_succ_cons, List.drop_zero]
   repeat' (first | apply And.intro | intro _)
   any_goals (first | (refine hK14 _ ?_; clear hK14) | omega | (simp_all <;> omega))
   refine srp_region ty_ok ?_
   try simp (maxSteps := 1000000) [hsum, ← q2]
   repeat' (first | apply And.intro | intro _)
   any_goals (first | (refine hK2 _ ?_; clear hK2) | omega | (simp_all <;> omega))
   refine srp_seq fun K17 hK17 => ?_
   refine srp_seq fun K18 hK18 => ?_
   refine srp_region ty_ok ?_
   try simp (maxSteps := 1000000)
   repeat' (first | apply And.intro | intro _)
   any_goals (first | (refine hK18 _ ?_; clear hK18) | omega | (simp_all <;> omega))
   refine srp_if fun C19 hC19 => ?_
   try simp (maxSteps := 1000000)
   refine hC19 _ (fun hc19 => ?_) (fun hc19 => ?_)
   ·clear hC19
    try simp at hc19
    refine srp_seq fun K20 hK20 => ?_
    refine srp_draw ty_ok mixed (ms := [0, 0, 2, 7]) (by kernel_rfl) ?_
    try simp (maxSteps := 1000000)
    repeat' (first | apply And.intro | intro _)
    any_goals (first | kernel_rfl | (refine hK20 _ ?_; clear hK20) | omega | (simp_all <;> omega))
    refine srp_ret ?_
    try simp only [thn, inBlk]
    refine ⟨rfl, by simp [getH], ?_⟩
    have hE2 : stE bs p = e := (by rw [hE, if_neg hc19] at q1; exact q1.symm)
    rw [hE2]
    simp [getH, Eff.on, put, Blk.inL, Cells.inL, inL1]
   ·clear hC19
    try simp at hc19
    refine srp_skip ?_
    try simp only [thn, inBlk]
    refine hK17 _ ?_; clear hK17
    refine srp_seq fun K22 hK22 => ?_
    refine srp_seq fun K23 hK23 => ?_
    have hs0 : stE bs p = 0 := hc19
    have h8 : e = 8 := (by rw [hE, if_pos hs0] at q1; split at q1; exact absurd q1 he; exact q1)
    have htn : tkB a b (r1N bs a b p) = false := (by rw [hE, if_pos hs0] at q1; rw [q2]; cases ht : tkB a b (wasI a b + stV bs p) with | false => (first | exact ht | (rw [hwa] at ht; exact ht)) | true => (rw [hwa] at ht; rw [if_pos ht] at q1; exact absurd q1 he))
    refine srp_region ty_ok ?_
    refine runs_cut 6 fun R24 hR24 => ?_
    try simp (maxSteps := 1000000) [List.take_succ_cons, List.take_zero, List.drop_succ_cons, List.drop_zero]
    repeat' (first | apply And.intro | intro _)
    any_goals (first | (refine hR24 _ ?_; clear hR24) | omega | (simp_all <;> omega))
    refine runs_cut 1 fun R25 hR25 => ?_
    try simp (maxSteps := 1000000) [List.take_succ_cons, List.take_zero, List.drop_succ_cons, List.drop_zero]
    refine .inr ⟨.bool false, [], (by intros; exact Or.inr (hcl_mk (take_no4 _ a b _ ha htn) (by simp [PV.ids, id1, getH, Blk.inL, Cells.inL, inL1]) (by simp [PV.inL, inL1]) (by simp) ⟨rfl, rfl⟩)), (fun hb => by simp), ?_⟩
    repeat' (first | apply And.intro | intro _)
    any_goals (first | (refine hR25 _ ?_; clear hR25) | omega | (simp_all <;> omega))
    try simp (maxSteps := 1000000) [List.take_succ_cons, List.take_zero, List.drop_succ_cons, List.drop_zero]
    repeat' (first | apply And.intro | intro _)
    any_goals (first | (refine hK23 _ ?_; clear hK23) | omega | (simp_all <;> omega))
    refine srp_if fun C26 hC26 => ?_
    try simp (maxSteps := 1000000)
    refine hC26 _ (fun hc26 => ?_) (fun hc26 => ?_)
    ·clear hC26
     try simp at hc26
     refine srp_seq fun K27 hK27 => ?_
     refine srp_region ty_ok ?_
     try simp (maxSteps := 1000000)
     repeat' (first | apply And.intro | intro _)
     any_goals (first | (refine hK27 _ ?_; clear hK27) | omega | (simp_all <;> omega))
     refine srp_ret ?_
     try simp only [thn, inBlk]
     refine ⟨rfl, by simp [getH], ?_⟩
     rw [h8]
     simp [getH, Eff.on, put, Blk.inL, Cells.inL, inL1]
    ·exfalso
     have h := hc26
     simp at h
     omega
  ·clear hC13
   try simp at hc13
   refine srp_seq fun K28 hK28 => ?_
   refine srp_region ty_ok ?_
   try simp (maxSteps := 1000000)
   repeat' (first | apply And.intro | intro _)
   any_goals (first | (refine hK28 _ ?_; clear hK28) | omega | (simp_all <;> omega))
   refine srp_if fun C29 hC29 => ?_
   try simp (maxSteps := 1000000)
   refine hC29 _ (fun hc29 => ?_) (fun hc29 => ?_)
   ·clear hC29
    try simp at hc29
    refine srp_seq fun K30 hK30 => ?_
    have hnn : ¬ (b = 13 ∧ a.2 < 0) := by have h := hc29; omega
    obtain ⟨q1, q2, q3⟩ := r1_s (b := bs) (a := a) (bk := b) (p := p) (by omega) hnn
    have hwa : wasI a b = a.1 := if_neg (by omega)
    rw [hwa] at q1 q2
    have hsum : IntKind.i64.wrap (stV bs p + a.1) = a.1 + stV bs p := by rw [w64 (by omega)]; omega
    refine srp_region ty_ok ?_
    refine runs_cut 2 fun R31 hR31 => ?_
    try simp (maxSteps := 1000000) [List.take_succ_cons, List.take_zero, List.drop_succ_cons, List.drop_zero]
    repeat' (first | apply And.intro | intro _)
    any_goals (first | (refine hR31 _ ?_; clear hR31) | omega | (simp_all <;> omega))
    refine runs_cut 1 fun R32 hR32 => ?_
    try simp (maxSteps := 1000000) [List.take_succ_cons, List.take_zero, List.drop_succ_cons, List.drop_zero]
    refine .inl ⟨_, hstepped_ok bs p (by omega) hp255 (by omega), ?_⟩
    try simp (maxSteps := 1000000)
    repeat' (first | apply And.intro | intro _)
    any_goals (first | (refine hR32 _ ?_; clear hR32) | omega | (simp_all <;> omega))
    try simp (maxSteps := 1000000) [List.take_succ_cons, List.take_zero, List.drop_succ_cons, List.drop_zero]
    repeat' (first | apply And.intro | intro _)
    any_goals (first | (refine hK30 _ ?_; clear hK30) | omega | (simp_all <;> omega))
    refine srp_region ty_ok ?_
    try simp (maxSteps := 1000000) [hsum, ← q2]
    repeat' (first | apply And.intro | intro _)
    any_goals (first | (refine hK2 _ ?_; clear hK2) | omega | (simp_all <;> omega))
    refine srp_seq fun K33 hK33 => ?_
    refine srp_seq fun K34 hK34 => ?_
    refine srp_region ty_ok ?_
    try simp (maxSteps := 1000000)
    repeat' (first | apply And.intro | intro _)
    any_goals (first | (refine hK34 _ ?_; clear hK34) | omega | (simp_all <;> omega))
    refine srp_if fun C35 hC35 => ?_
    try simp (maxSteps := 1000000)
    refine hC35 _ (fun hc35 => ?_) (fun hc35 => ?_)
    ·clear hC35
     try simp at hc35
     refine srp_seq fun K36 hK36 => ?_
     refine srp_draw ty_ok mixed (ms := [0, 0, 2, 7]) (by kernel_rfl) ?_
     try simp (maxSteps := 1000000)
     repeat' (first | apply And.intro | intro _)
     any_goals (first | kernel_rfl | (refine hK36 _ ?_; clear hK36) | omega | (simp_all <;> omega))
     refine srp_ret ?_
     try simp only [thn, inBlk]
     refine ⟨rfl, by simp [getH], ?_⟩
     have hE2 : stE bs p = e := (by rw [hE, if_neg hc35] at q1; exact q1.symm)
     rw [hE2]
     simp [getH, Eff.on, put, Blk.inL, Cells.inL, inL1]
    ·clear hC35
     try simp at hc35
     refine srp_skip ?_
     try simp only [thn, inBlk]
     refine hK33 _ ?_; clear hK33
     refine srp_seq fun K38 hK38 => ?_
     refine srp_seq fun K39 hK39 => ?_
     have hs0 : stE bs p = 0 := hc35
     have h8 : e = 8 := (by rw [hE, if_pos hs0] at q1; split at q1; exact absurd q1 he; exact q1)
     have htn : tkB a b (r1N bs a b p) = false := (by rw [hE, if_pos hs0] at q1; rw [q2]; cases ht : tkB a b (wasI a b + stV bs p) with | false => (first | exact ht | (rw [hwa] at ht; exact ht)) | true => (rw [hwa] at ht; rw [if_pos ht] at q1; exact absurd q1 he))
     refine srp_region ty_ok ?_
     refine runs_cut 6 fun R40 hR40 => ?_
     try simp (maxSteps := 1000000) [List.take_succ_cons, List.take_zero, List.drop_succ_cons, List.drop_zero]
     repeat' (first | apply And.intro | intro _)
     any_goals (first | (refine hR40 _ ?_; clear hR40) | omega | (simp_all <;> omega))
     refine runs_cut 1 fun R41 hR41 => ?_
     try simp (maxSteps := 1000000) [List.take_succ_cons, List.take_zero, List.drop_succ_cons, List.drop_zero]
     refine .inr ⟨.bool false, [], (by intros; exact Or.inr (hcl_mk (take_no4 _ a b _ ha htn) (by simp [PV.ids, id1, getH, Blk.inL, Cells.inL, inL1]) (by simp [PV.inL, inL1]) (by simp) ⟨rfl, rfl⟩)), (fun hb => by simp), ?_⟩
     repeat' (first | apply And.intro | intro _)
     any_goals (first | (refine hR41 _ ?_; clear hR41) | omega | (simp_all <;> omega))
     try simp (maxSteps := 1000000) [List.take_succ_cons, List.take_zero, List.drop_succ_cons, List.drop_zero]
     repeat' (first | apply And.intro | intro _)
     any_goals (first | (refine hK39 _ ?_; clear hK39) | omega | (simp_all <;> omega))
     refine srp_if fun C42 hC42 => ?_
     try simp (maxSteps := 1000000)
     refine hC42 _ (fun hc42 => ?_) (fun hc42 => ?_)
     ·clear hC42
      try simp at hc42
      refine srp_seq fun K43 hK43 => ?_
      refine srp_region ty_ok ?_
      try simp (maxSteps := 1000000)
      repeat' (first | apply And.intro | intro _)
      any_goals (first | (refine hK43 _ ?_; clear hK43) | omega | (simp_all <;> omega))
      refine srp_ret ?_
      try simp only [thn, inBlk]
      refine ⟨rfl, by simp [getH], ?_⟩
      rw [h8]
      simp [getH, Eff.on, put, Blk.inL, Cells.inL, inL1]
     ·exfalso
      have h := hc42
      simp at h
      omega
   ·exfalso
    have h := hc29
    simp at h
    have hz := (r1_0 (b := bs) (a := a) (bk := b) (p := p) (by omega)).1
    rw [hE] at hz
    exact he hz

set_option maxHeartbeats 8000000 in
theorem get_by (L : Loop) (hst : L.state = .ready) (hpd : L.pending = none) (hprm : L.params = #[43, 44]) (hasg : L.assign = (rfN Try.f36 0).1) (hbod : L.body = (rfN Try.f36 0).2) (hsz : L.tmps.size = 117) (bs : List Int) (hm : bs.length ≤ 1000000) (hp : ∀ y ∈ bs, 0 ≤ y ∧ y ≤ 255) (m : Nat) (T : List (List Int)) (hT : T.length = m) (p : Int) (hpp : 0 ≤ p ∧ p ≤ bs.length) (a : Int × Int) (ha : AOk a) (w : List Sc) (hw : ∀ x ∈ w, badS x = false) (hwl : w.length ≤ 40) (hbl : (bkR w).length ≤ 40) (hok : rwE bs (bkR w) p a (bkR w).length = 0) : HCall Try.prog 104 [.yld 10, .ptr 8 0 0 1] [(10, some ⟨.lp L (psOf 117 [(4, .ptr 0 0 0 1), (8, .ptr 1 0 0 1), (9, .ptr 2 0 0 1), (10, .ptr 3 0 0 1), (11, .ptr 5 0 0 1), (14, .ptr 7 0 0 1)]), true, 0⟩), (0, some ⟨.rows 1 [[.ro (.ints .u8 bs)]], true, 22⟩), (1, some ⟨.rows 1 [[.sl 6 0 m m]], true, 56⟩), (2, some ⟨.rows 1 [[.int .i64 ((rwS bs (bkR w) p a 0)).p]], true, 3⟩), (3, some ⟨.rows 1 [[.int .i64 0]], true, 27⟩), (4, some ⟨.rows 2 [[.int .i64 ((rwS bs (bkR w) p a 0).a).1, .int .i64 ((rwS bs (bkR w) p a 0).a).2]], true, 109⟩), (5, some ⟨.rows 1 [[.ptr 4 0 0 1]], true, 107⟩), (6, some ⟨.rows 1 (T.map fun w => [.ro (.ints .i64 w)]), false, 23⟩), (7, some ⟨.rows 1 [[.sl 9 0 (0) (0)]], true, 23⟩), (8, some ⟨.rows 1 [[.ro (.rows 2 (w.map Sc.row))]], true, 61⟩), (9, some ⟨.ints .i64 (rwS bs (bkR w) p a 0).vs, false, 3⟩)] 11 (.tup []) [(2, some ⟨.rows 1 [[.int .i64 ((rwS bs (bkR w) p a (bkR w).length)).p]], true, 3⟩), (4, some ⟨.rows 2 [[.int .i64 ((rwS bs (bkR w) p a (bkR w).length).a).1, .int .i64 ((rwS bs (bkR w) p a (bkR w).length).a).2]], true, 109⟩), (7, some ⟨.rows 1 [[.sl 9 0 (bkR w).length (bkR w).length]], true, 23⟩), (9, some ⟨.ints .i64 (rwS bs (bkR w) p a (bkR w).length).vs, false, 3⟩)] := by
 have hplo : ∀ y ∈ (psOf 117 [(4, .ptr 0 0 0 1), (8, .ptr 1 0 0 1), (9, .ptr 2 0 0 1), (10, .ptr 3 0 0 1), (11, .ptr 5 0 0 1), (14, .ptr 7 0 0 1)]), PV.lo 12 y = true := psOf_lo (by rfl)
 have hplo8 : ∀ y ∈ (psOf 117 [(4, .ptr 0 0 0 1), (8, .ptr 1 0 0 1), (9, .ptr 2 0 0 1), (10, .ptr 3 0 0 1), (11, .ptr 5 0 0 1), (14, .ptr 7 0 0 1)]), PV.lo 11 y = true := psOf_lo (by rfl)
 have hp255 : ∀ k : Nat, 0 ≤ bs[k]?.getD 0 ∧ bs[k]?.getD 0 ≤ 255 := fun k => by
  cases hk : bs[k]? with
  | none => exact ⟨by decide, by decide⟩
  | some v => exact hp v (List.mem_of_getElem? hk)
 refine hcall_body ty_ok Try.func104 rfl (by rfl) (by simp) ?_
 rw [Try.ntmps104]
 refine swp_seq fun K1 hK1 => ?_
 refine swp_region ty_ok ?_
 try simp (maxSteps := 1000000)
 repeat' (first | apply And.intro | intro _)
 any_goals (first | (refine hK1 _ ?_; clear hK1) | omega | (simp_all <;> omega))
 refine swp_seq fun K2 hK2 => ?_
 refine swp_region ty_ok ?_
 try simp (maxSteps := 1000000)
 repeat' (first | apply And.intro | intro _)
 any_goals (first | (refine hK2 _ ?_; clear hK2) | omega | (simp_all <;> omega))
 refine swp_block ?_
 refine swp_loop 11 (fun m_ s_ => ∃ (i : Nat), (i ≤ w.length) ∧ s_ = ⟨[(0, .yld 10), (1, .ptr 8 0 0 1), (3, .int .i64 ((bkR (w.take i)).length : Nat)), (6, .ro (.rows 2 (w.map Sc.row))), (7, .int .i64 (w.length : Nat)), (8, .int .i64 (i : Nat))], [(10, some ⟨.lp L (psOf 117 [(4, .ptr 0 0 0 1), (8, .ptr 1 0 0 1), (9, .ptr 2 0 0 1), (10, .ptr 3 0 0 1), (11, .ptr 5 0 0 1), (14, .ptr 7 0 0 1)]), true, 0⟩), (0, some ⟨.rows 1 [[.ro (.ints .u8 bs)]], true, 22⟩), (1, some ⟨.rows 1 [[.sl 6 0 m m]], true, 56⟩), (2, some ⟨.rows 1 [[.int .i64 ((rwS bs (bkR w) p a (bkR (w.take i)).length)).p]], true, 3⟩), (3, some ⟨.rows 1 [[.int .i64 0]], true, 27⟩), (4, some ⟨.rows 2 [[.int .i64 ((rwS bs (bkR w) p a (bkR (w.take i)).length).a).1, .int .i64 ((rwS bs (bkR w) p a (bkR (w.take i)).length).a).2]], true, 109⟩), (5, some ⟨.rows 1 [[.ptr 4 0 0 1]], true, 107⟩), (6, some ⟨.rows 1 (T.map fun w => [.ro (.ints .i64 w)]), false, 23⟩), (7, some ⟨.rows 1 [[.sl 9 0 ((bkR (w.take i)).length) ((bkR (w.take i)).length)]], true, 23⟩), (8, some ⟨.rows 1 [[.ro (.rows 2 (w.map Sc.row))]], true, 61⟩), (9, some ⟨.ints .i64 (rwS bs (bkR w) p a (bkR (w.take i)).length).vs, false, 3⟩)], 11⟩ ∧ m_ = w.length - i) _ ⟨[(0, .yld 10), (1, .ptr 8 0 0 1), (3, .int .i64 ((bkR (w.take 0)).length : Nat)), (6, .ro (.rows 2 (w.map Sc.row))), (7, .int .i64 (w.length : Nat)), (8, .int .i64 (0 : Nat))], [(10, some ⟨.lp L (psOf 117 [(4, .ptr 0 0 0 1), (8, .ptr 1 0 0 1), (9, .ptr 2 0 0 1), (10, .ptr 3 0 0 1), (11, .ptr 5 0 0 1), (14, .ptr 7 0 0 1)]), true, 0⟩), (0, some ⟨.rows 1 [[.ro (.ints .u8 bs)]], true, 22⟩), (1, some ⟨.rows 1 [[.sl 6 0 m m]], true, 56⟩), (2, some ⟨.rows 1 [[.int .i64 ((rwS bs (bkR w) p a (bkR (w.take 0)).length)).p]], true, 3⟩), (3, some ⟨.rows 1 [[.int .i64 0]], true, 27⟩), (4, some ⟨.rows 2 [[.int .i64 ((rwS bs (bkR w) p a (bkR (w.take 0)).length).a).1, .int .i64 ((rwS bs (bkR w) p a (bkR (w.take 0)).length).a).2]], true, 109⟩), (5, some ⟨.rows 1 [[.ptr 4 0 0 1]], true, 107⟩), (6, some ⟨.rows 1 (T.map fun w => [.ro (.ints .i64 w)]), false, 23⟩), (7, some ⟨.rows 1 [[.sl 9 0 ((bkR (w.take 0)).length) ((bkR (w.take 0)).length)]], true, 23⟩), (8, some ⟨.rows 1 [[.ro (.rows 2 (w.map Sc.row))]], true, 61⟩), (9, some ⟨.ints .i64 (rwS bs (bkR w) p a (bkR (w.take 0)).length).vs, false, 3⟩)], 11⟩ ⟨by simp [getT, argT, PV.lo, lo1, bkR], by (simp [getH, Blk.lo, Cells.lo, lo1, bkR, aN, rwS]; try exact hplo8), rfl, by omega⟩ ⟨(0), by omega, rfl, rfl⟩ ?_
 rintro m_ s_ ⟨i, hL3_0, rfl, rfl⟩ KL3 hL3
 have hiw := wnext (i := i) (by omega)
 refine swp_seq fun K4 hK4 => ?_
 refine swp_region ty_ok ?_
 try simp (maxSteps := 1000000)
 repeat' (first | apply And.intro | intro _)
 any_goals (first | (refine hK4 _ ?_; clear hK4) | omega | (simp_all <;> omega))
 refine swp_seq fun K5 hK5 => ?_
 refine swp_if fun C6 hC6 => ?_
 try simp (maxSteps := 1000000)
 refine hC6 _ (fun hc6 => ?_) (fun hc6 => ?_)
 ·clear hC6
  try simp at hc6
  refine swp_skip ?_
  try simp only [thn, inBlk]
  refine hK5 _ ?_; clear hK5
  refine swp_seq fun K7 hK7 => ?_
  refine swp_block ?_
  refine swp_seq fun K8 hK8 => ?_
  have hri := sc_at (ws := w) (k := i) (by omega)
  refine swp_region ty_ok ?_
  try simp (maxSteps := 1000000) [hri]
  repeat' (first | apply And.intro | intro _)
  any_goals (first | (refine hK8 _ ?_; clear hK8) | omega | (simp_all <;> omega))
  refine swp_seq fun K9 hK9 => ?_
  refine swp_region ty_ok ?_
  try simp (maxSteps := 1000000)
  repeat' (first | apply And.intro | intro _)
  any_goals (first | (refine hK9 _ ?_; clear hK9) | omega | (simp_all <;> omega))
  refine swp_block ?_
  have hri := sc_at (ws := w) (k := i) (by omega)
  have hbi := badS_no (hw _ (mem_at (w := w) (j := i) (by omega)))
  have hbi2 : 1 ≤ (w[i]?.getD default).len ∧ (w[i]?.getD default).len ≤ 40 := hbi.1
  refine swp_loop 12 (fun m_ s_ => ∃ (c : Nat), ((c : Int) ≤ (w[i]?.getD default).len) ∧ s_ = ⟨[(0, .yld 10), (1, .ptr 8 0 0 1), (3, .int .i64 (((bkR (w.take i)).length + c) : Nat)), (6, .ro (.rows 2 (w.map Sc.row))), (7, .int .i64 (w.length : Nat)), (8, .int .i64 (i : Nat)), (5, .ptr 11 0 0 1), (13, .int .i64 (w[i]?.getD default).len), (14, .int .i64 (c : Nat))], [(10, some ⟨.lp L (psOf 117 [(4, .ptr 0 0 0 1), (8, .ptr 1 0 0 1), (9, .ptr 2 0 0 1), (10, .ptr 3 0 0 1), (11, .ptr 5 0 0 1), (14, .ptr 7 0 0 1)]), true, 0⟩), (0, some ⟨.rows 1 [[.ro (.ints .u8 bs)]], true, 22⟩), (1, some ⟨.rows 1 [[.sl 6 0 m m]], true, 56⟩), (2, some ⟨.rows 1 [[.int .i64 ((rwS bs (bkR w) p a ((bkR (w.take i)).length + c))).p]], true, 3⟩), (3, some ⟨.rows 1 [[.int .i64 0]], true, 27⟩), (4, some ⟨.rows 2 [[.int .i64 ((rwS bs (bkR w) p a ((bkR (w.take i)).length + c)).a).1, .int .i64 ((rwS bs (bkR w) p a ((bkR (w.take i)).length + c)).a).2]], true, 109⟩), (5, some ⟨.rows 1 [[.ptr 4 0 0 1]], true, 107⟩), (6, some ⟨.rows 1 (T.map fun w => [.ro (.ints .i64 w)]), false, 23⟩), (7, some ⟨.rows 1 [[.sl 9 0 (((bkR (w.take i)).length + c)) (((bkR (w.take i)).length + c))]], true, 23⟩), (8, some ⟨.rows 1 [[.ro (.rows 2 (w.map Sc.row))]], true, 61⟩), (9, some ⟨.ints .i64 (rwS bs (bkR w) p a ((bkR (w.take i)).length + c)).vs, false, 3⟩), (11, some ⟨.rows 2 [[.int .i64 (w[i]?.getD default).book, .int .i64 (w[i]?.getD default).len]], true, 63⟩)], 12⟩ ∧ m_ = (w[i]?.getD default).len.toNat - c) _ ⟨[(0, .yld 10), (1, .ptr 8 0 0 1), (3, .int .i64 (((bkR (w.take i)).length + 0) : Nat)), (6, .ro (.rows 2 (w.map Sc.row))), (7, .int .i64 (w.length : Nat)), (8, .int .i64 (i : Nat)), (5, .ptr 11 0 0 1), (13, .int .i64 (w[i]?.getD default).len), (14, .int .i64 (0 : Nat))], [(10, some ⟨.lp L (psOf 117 [(4, .ptr 0 0 0 1), (8, .ptr 1 0 0 1), (9, .ptr 2 0 0 1), (10, .ptr 3 0 0 1), (11, .ptr 5 0 0 1), (14, .ptr 7 0 0 1)]), true, 0⟩), (0, some ⟨.rows 1 [[.ro (.ints .u8 bs)]], true, 22⟩), (1, some ⟨.rows 1 [[.sl 6 0 m m]], true, 56⟩), (2, some ⟨.rows 1 [[.int .i64 ((rwS bs (bkR w) p a ((bkR (w.take i)).length + 0))).p]], true, 3⟩), (3, some ⟨.rows 1 [[.int .i64 0]], true, 27⟩), (4, some ⟨.rows 2 [[.int .i64 ((rwS bs (bkR w) p a ((bkR (w.take i)).length + 0)).a).1, .int .i64 ((rwS bs (bkR w) p a ((bkR (w.take i)).length + 0)).a).2]], true, 109⟩), (5, some ⟨.rows 1 [[.ptr 4 0 0 1]], true, 107⟩), (6, some ⟨.rows 1 (T.map fun w => [.ro (.ints .i64 w)]), false, 23⟩), (7, some ⟨.rows 1 [[.sl 9 0 (((bkR (w.take i)).length + 0)) (((bkR (w.take i)).length + 0))]], true, 23⟩), (8, some ⟨.rows 1 [[.ro (.rows 2 (w.map Sc.row))]], true, 61⟩), (9, some ⟨.ints .i64 (rwS bs (bkR w) p a ((bkR (w.take i)).length + 0)).vs, false, 3⟩), (11, some ⟨.rows 2 [[.int .i64 (w[i]?.getD default).book, .int .i64 (w[i]?.getD default).len]], true, 63⟩)], 12⟩ ⟨by simp [getT, argT, PV.lo, lo1], by (simp [getH, Blk.lo, Cells.lo, lo1]; try exact hplo), rfl, by omega⟩ ⟨(0), by omega, rfl, rfl⟩ ?_
  rintro m_ s_ ⟨c, hL10_0, rfl, rfl⟩ KL10 hL10
  have hcw := wnext (i := c) (by omega)
  refine swp_seq fun K11 hK11 => ?_
  refine swp_region ty_ok ?_
  try simp (maxSteps := 1000000)
  repeat' (first | apply And.intro | intro _)
  any_goals (first | (refine hK11 _ ?_; clear hK11) | omega | (simp_all <;> omega))
  refine swp_seq fun K12 hK12 => ?_
  refine swp_if fun C13 hC13 => ?_
  try simp (maxSteps := 1000000)
  refine hC13 _ (fun hc13 => ?_) (fun hc13 => ?_)
  ·clear hC13
   try simp at hc13
   refine swp_skip ?_
   try simp only [thn, inBlk]
   refine hK12 _ ?_; clear hK12
   refine swp_seq fun K14 hK14 => ?_
   refine swp_block ?_
   refine swp_seq fun K15 hK15 => ?_
   refine swp_seq fun K16 hK16 => ?_
   obtain ⟨hc1, hc2⟩ := bkR_cut (l := w) (i := i) (c := c) (by omega) (by omega)
   have hb0 : 0 ≤ (w[i]?.getD default).book := hbi.2.1
   refine swp_yield ty_ok 4 _ rfl ?_
   try simp (maxSteps := 1000000) [List.take_succ_cons, List.take_zero, List.drop_succ_cons, List.drop_zero, List.take_nil, List.drop_nil]
   have hoat := rwE_mono (k := ((bkR (w.take i)).length + c)) (by omega) hok
   have hrat := rwE_at hok hc2
   rw [hc1] at hrat
   have hs1 : ((bkR (w.take i)).length + c) + 1 = (bkR (w.take i)).length + (c + 1) := by omega
   have hrl := rwS_len bs (bkR w) p a ((bkR (w.take i)).length + c)
   have hYp := rwP_bd (b := bs) (bs := bkR w) (a := a) (p := p) hp255 hm ⟨by omega, by omega⟩ ((bkR (w.take i)).length + c)
   refine ⟨16, [17, 19], _, 10, L, (psOf 117 [(4, .ptr 0 0 0 1), (8, .ptr 1 0 0 1), (9, .ptr 2 0 0 1), (10, .ptr 3 0 0 1), (11, .ptr 5 0 0 1), (14, .ptr 7 0 0 1)]), 0, [(10, some ⟨.lp L (psOf 117 [(4, .ptr 0 0 0 1), (8, .ptr 1 0 0 1), (9, .ptr 2 0 0 1), (10, .ptr 3 0 0 1), (11, .ptr 5 0 0 1), (14, .ptr 7 0 0 1)]), true, 0⟩), (0, some ⟨.rows 1 [[.ro (.ints .u8 bs)]], true, 22⟩), (1, some ⟨.rows 1 [[.sl 6 0 m m]], true, 56⟩), (2, some ⟨.rows 1 [[.int .i64 ((rwS bs (bkR w) p a ((bkR (w.take i)).length + c))).p]], true, 3⟩), (3, some ⟨.rows 1 [[.int .i64 0]], true, 27⟩), (4, some ⟨.rows 2 [[.int .i64 ((rwS bs (bkR w) p a ((bkR (w.take i)).length + c)).a).1, .int .i64 ((rwS bs (bkR w) p a ((bkR (w.take i)).length + c)).a).2]], true, 109⟩), (5, some ⟨.rows 1 [[.ptr 4 0 0 1]], true, 107⟩), (6, some ⟨.rows 1 (T.map fun w => [.ro (.ints .i64 w)]), false, 23⟩), (7, some ⟨.rows 1 [[.sl 9 0 (((bkR (w.take i)).length + c)) (((bkR (w.take i)).length + c))]], true, 23⟩), (8, some ⟨.rows 1 [[.ro (.rows 2 (w.map Sc.row))]], true, 61⟩), (9, some ⟨.ints .i64 (rwS bs (bkR w) p a ((bkR (w.take i)).length + c)).vs, false, 3⟩), (11, some ⟨.rows 2 [[.int .i64 (w[i]?.getD default).book, .int .i64 (w[i]?.getD default).len]], true, 63⟩)], 12, [(2, some ⟨.rows 1 [[.int .i64 ((rwS bs (bkR w) p a (((bkR (w.take i)).length + c) + 1))).p]], true, 3⟩), (4, some ⟨.rows 2 [[.int .i64 ((rwS bs (bkR w) p a (((bkR (w.take i)).length + c) + 1)).a).1, .int .i64 ((rwS bs (bkR w) p a (((bkR (w.take i)).length + c) + 1)).a).2]], true, 109⟩), (7, some ⟨.rows 1 [[.sl 9 0 (((bkR (w.take i)).length + c) + 1) (((bkR (w.take i)).length + c) + 1)]], true, 23⟩), (9, some ⟨.ints .i64 (rwS bs (bkR w) p a (((bkR (w.take i)).length + c) + 1)).vs, false, 3⟩)], rfl, rfl, by simp [getT], by simp [getH], (by intro id; simp only [getH]; repeat' split <;> simp_all), (by simp), (by have h := get_ry bs hm hp m T ((bkR (w.take i)).length + c) (rwS bs (bkR w) p a ((bkR (w.take i)).length + c)).vs hrl (by omega) (rwS bs (bkR w) p a ((bkR (w.take i)).length + c)).p hYp (rwS bs (bkR w) p a ((bkR (w.take i)).length + c)).a (rwA_ok hp hpp ha hoat) w (w[i]?.getD default) (w[i]?.getD default).book hb0 hrat L hst hpd hprm hasg hbod hsz; rw [← rwP_succ hc1, ← rwA_succ hc1, ← rwV_succ hc1] at h; simpa [getT] using h), ?_⟩
   try simp (maxSteps := 1000000) [List.take_succ_cons, List.take_zero, List.drop_succ_cons, List.drop_zero]
   repeat' (first | apply And.intro | intro _)
   any_goals (first | (refine hK16 _ ?_; clear hK16) | omega | (simp_all <;> omega))
   refine swp_if fun C18 hC18 => ?_
   try simp (maxSteps := 1000000)
   refine hC18 _ (fun hc18 => ?_) (fun hc18 => ?_)
   ·exact absurd hc18 (by simp)
   ·clear hC18
    try simp at hc18
    refine swp_skip ?_
    try simp only [thn, inBlk]
    refine hK15 _ ?_; clear hK15
    have hatw : IntKind.i64.wrap (((bkR (w.take i)).length : Int) + (c : Int) + 1) = ((bkR (w.take i)).length : Int) + ((c : Int) + 1) := by rw [w64 (by omega)]; omega
    refine swp_region ty_ok ?_
    try simp (maxSteps := 1000000) [hatw]
    repeat' (first | apply And.intro | intro _)
    any_goals (first | (refine hK14 _ ?_; clear hK14) | omega | (simp_all <;> omega))
    refine swp_region ty_ok ?_
    try simp (maxSteps := 1000000)
    repeat' apply And.intro
    any_goals (try omega)
    refine hL10 _ ⟨[(0, .yld 10), (1, .ptr 8 0 0 1), (3, .int .i64 (((bkR (w.take i)).length + (c + 1)) : Nat)), (6, .ro (.rows 2 (w.map Sc.row))), (7, .int .i64 (w.length : Nat)), (8, .int .i64 (i : Nat)), (5, .ptr 11 0 0 1), (13, .int .i64 (w[i]?.getD default).len), (14, .int .i64 ((c + 1) : Nat))], [(10, some ⟨.lp L (psOf 117 [(4, .ptr 0 0 0 1), (8, .ptr 1 0 0 1), (9, .ptr 2 0 0 1), (10, .ptr 3 0 0 1), (11, .ptr 5 0 0 1), (14, .ptr 7 0 0 1)]), true, 0⟩), (0, some ⟨.rows 1 [[.ro (.ints .u8 bs)]], true, 22⟩), (1, some ⟨.rows 1 [[.sl 6 0 m m]], true, 56⟩), (2, some ⟨.rows 1 [[.int .i64 ((rwS bs (bkR w) p a ((bkR (w.take i)).length + (c + 1)))).p]], true, 3⟩), (3, some ⟨.rows 1 [[.int .i64 0]], true, 27⟩), (4, some ⟨.rows 2 [[.int .i64 ((rwS bs (bkR w) p a ((bkR (w.take i)).length + (c + 1))).a).1, .int .i64 ((rwS bs (bkR w) p a ((bkR (w.take i)).length + (c + 1))).a).2]], true, 109⟩), (5, some ⟨.rows 1 [[.ptr 4 0 0 1]], true, 107⟩), (6, some ⟨.rows 1 (T.map fun w => [.ro (.ints .i64 w)]), false, 23⟩), (7, some ⟨.rows 1 [[.sl 9 0 (((bkR (w.take i)).length + (c + 1))) (((bkR (w.take i)).length + (c + 1)))]], true, 23⟩), (8, some ⟨.rows 1 [[.ro (.rows 2 (w.map Sc.row))]], true, 61⟩), (9, some ⟨.ints .i64 (rwS bs (bkR w) p a ((bkR (w.take i)).length + (c + 1))).vs, false, 3⟩), (11, some ⟨.rows 2 [[.int .i64 (w[i]?.getD default).book, .int .i64 (w[i]?.getD default).len]], true, 63⟩)], 12⟩ _ ?_ ⟨(c + 1), by omega, rfl, rfl⟩ ⟨by (simp [getT, PV.lo, lo1, hcw, hatw]; try omega), by (try rw [hs1]; simp [getH, Blk.lo, Cells.lo, lo1, hc1]; (try (repeat' apply And.intro)); all_goals (first | exact hplo | omega)), rfl, by omega⟩
    omega
  ·clear hC13
   try simp at hc13
   refine swp_exit ?_
   simp [thn, inBlk]
   refine hK7 _ ?_; clear hK7
   refine swp_region ty_ok ?_
   try simp (maxSteps := 1000000)
   repeat' apply And.intro
   any_goals (try omega)
   refine hL3 _ ⟨[(0, .yld 10), (1, .ptr 8 0 0 1), (3, .int .i64 ((bkR (w.take (i + 1))).length : Nat)), (6, .ro (.rows 2 (w.map Sc.row))), (7, .int .i64 (w.length : Nat)), (8, .int .i64 ((i + 1) : Nat))], [(10, some ⟨.lp L (psOf 117 [(4, .ptr 0 0 0 1), (8, .ptr 1 0 0 1), (9, .ptr 2 0 0 1), (10, .ptr 3 0 0 1), (11, .ptr 5 0 0 1), (14, .ptr 7 0 0 1)]), true, 0⟩), (0, some ⟨.rows 1 [[.ro (.ints .u8 bs)]], true, 22⟩), (1, some ⟨.rows 1 [[.sl 6 0 m m]], true, 56⟩), (2, some ⟨.rows 1 [[.int .i64 ((rwS bs (bkR w) p a (bkR (w.take (i + 1))).length)).p]], true, 3⟩), (3, some ⟨.rows 1 [[.int .i64 0]], true, 27⟩), (4, some ⟨.rows 2 [[.int .i64 ((rwS bs (bkR w) p a (bkR (w.take (i + 1))).length).a).1, .int .i64 ((rwS bs (bkR w) p a (bkR (w.take (i + 1))).length).a).2]], true, 109⟩), (5, some ⟨.rows 1 [[.ptr 4 0 0 1]], true, 107⟩), (6, some ⟨.rows 1 (T.map fun w => [.ro (.ints .i64 w)]), false, 23⟩), (7, some ⟨.rows 1 [[.sl 9 0 ((bkR (w.take (i + 1))).length) ((bkR (w.take (i + 1))).length)]], true, 23⟩), (8, some ⟨.rows 1 [[.ro (.rows 2 (w.map Sc.row))]], true, 61⟩), (9, some ⟨.ints .i64 (rwS bs (bkR w) p a (bkR (w.take (i + 1))).length).vs, false, 3⟩)], 11⟩ _ ?_ ⟨(i + 1), by omega, rfl, rfl⟩ ⟨by (have htl := take_len (w := w) (i := i) (c := c) (by omega) (by omega); simp [getT, PV.lo, lo1, hiw, htl]), by (have htl := take_len (w := w) (i := i) (c := c) (by omega) (by omega); rw [htl]; simp [getH, Blk.lo, Cells.lo, lo1]; try exact hplo8), rfl, by omega⟩
   omega
 ·clear hC6
  try simp at hc6
  refine swp_exit ?_
  simp [thn, inBlk]
  simp [fnPostH, PV.inR, inR1, PV.inL, inL1, Blk.inL, Cells.inL, put_at, Try.results104, resP, tupOf]
  rw [take_all (by omega)]
  refine ⟨fun y hy => ?_, ?_⟩
  ·rcases psOf_mem hy with rfl | ⟨p, hp, rfl⟩
   ·rfl
   ·simp only [List.mem_cons, List.not_mem_nil, or_false] at hp
    rcases hp with rfl | rfl | rfl | rfl | rfl | rfl <;> simp [inL1]
  ·(repeat' apply And.intro) <;> rfl

set_option maxHeartbeats 8000000 in
theorem get_bn (L : Loop) (hst : L.state = .ready) (hpd : L.pending = none) (hprm : L.params = #[43, 44]) (hasg : L.assign = (rfN Try.f36 0).1) (hbod : L.body = (rfN Try.f36 0).2) (hsz : L.tmps.size = 117) (bs : List Int) (hm : bs.length ≤ 1000000) (hp : ∀ y ∈ bs, 0 ≤ y ∧ y ≤ 255) (m : Nat) (T : List (List Int)) (hT : T.length = m) (p : Int) (hpp : 0 ≤ p ∧ p ≤ bs.length) (a : Int × Int) (ha : AOk a) (w : List Sc) (hw : ∀ x ∈ w, badS x = false) (hwl : w.length ≤ 40) (hbl : (bkR w).length ≤ 40) (J : Nat) (j1 : J < (bkR w).length) (j2 : rwE bs (bkR w) p a J = 0) (e : Int) (j3 : r1E bs (rwS bs (bkR w) p a J).a ((bkR w)[J]?.getD 0) (rwS bs (bkR w) p a J).p = e) (he : ¬ e = 0) : HCall Try.prog 104 [.yld 10, .ptr 8 0 0 1] [(10, some ⟨.lp L (psOf 117 [(4, .ptr 0 0 0 1), (8, .ptr 1 0 0 1), (9, .ptr 2 0 0 1), (10, .ptr 3 0 0 1), (11, .ptr 5 0 0 1), (14, .ptr 7 0 0 1)]), true, 0⟩), (0, some ⟨.rows 1 [[.ro (.ints .u8 bs)]], true, 22⟩), (1, some ⟨.rows 1 [[.sl 6 0 m m]], true, 56⟩), (2, some ⟨.rows 1 [[.int .i64 ((rwS bs (bkR w) p a 0)).p]], true, 3⟩), (3, some ⟨.rows 1 [[.int .i64 0]], true, 27⟩), (4, some ⟨.rows 2 [[.int .i64 ((rwS bs (bkR w) p a 0).a).1, .int .i64 ((rwS bs (bkR w) p a 0).a).2]], true, 109⟩), (5, some ⟨.rows 1 [[.ptr 4 0 0 1]], true, 107⟩), (6, some ⟨.rows 1 (T.map fun w => [.ro (.ints .i64 w)]), false, 23⟩), (7, some ⟨.rows 1 [[.sl 9 0 (0) (0)]], true, 23⟩), (8, some ⟨.rows 1 [[.ro (.rows 2 (w.map Sc.row))]], true, 61⟩), (9, some ⟨.ints .i64 (rwS bs (bkR w) p a 0).vs, false, 3⟩)] 11 (.tup []) [(10, some ⟨.lp (Lj L .ret) (psOf 117 [(4, .ptr 0 0 0 1), (8, .ptr 1 0 0 1), (9, .ptr 2 0 0 1), (10, .ptr 3 0 0 1), (11, .ptr 5 0 0 1), (14, .ptr 7 0 0 1)]), true, 0⟩), (1, some ⟨.rows 1 [[.nil (.rows 1 [])]], true, 56⟩), (2, some ⟨.rows 1 [[.int .i64 0]], true, 3⟩), (3, some ⟨.rows 1 [[.int .i64 e]], true, 27⟩), (4, some ⟨.rows 2 [[.int .i64 ((rwS bs (bkR w) p a J).a).1, .int .i64 ((rwS bs (bkR w) p a J).a).2]], true, 109⟩), (7, some ⟨.rows 1 [[.sl 9 0 J J]], true, 23⟩), (9, some ⟨.ints .i64 (rwS bs (bkR w) p a J).vs, false, 3⟩)] := by
 have hplo : ∀ y ∈ (psOf 117 [(4, .ptr 0 0 0 1), (8, .ptr 1 0 0 1), (9, .ptr 2 0 0 1), (10, .ptr 3 0 0 1), (11, .ptr 5 0 0 1), (14, .ptr 7 0 0 1)]), PV.lo 12 y = true := psOf_lo (by rfl)
 have hplo8 : ∀ y ∈ (psOf 117 [(4, .ptr 0 0 0 1), (8, .ptr 1 0 0 1), (9, .ptr 2 0 0 1), (10, .ptr 3 0 0 1), (11, .ptr 5 0 0 1), (14, .ptr 7 0 0 1)]), PV.lo 11 y = true := psOf_lo (by rfl)
 have hp255 : ∀ k : Nat, 0 ≤ bs[k]?.getD 0 ∧ bs[k]?.getD 0 ≤ 255 := fun k => by
  cases hk : bs[k]? with
  | none => exact ⟨by decide, by decide⟩
  | some v => exact hp v (List.mem_of_getElem? hk)
 refine hcall_body ty_ok Try.func104 rfl (by rfl) (by simp) ?_
 rw [Try.ntmps104]
 refine swp_seq fun K1 hK1 => ?_
 refine swp_region ty_ok ?_
 try simp (maxSteps := 1000000)
 repeat' (first | apply And.intro | intro _)
 any_goals (first | (refine hK1 _ ?_; clear hK1) | omega | (simp_all <;> omega))
 refine swp_seq fun K2 hK2 => ?_
 refine swp_region ty_ok ?_
 try simp (maxSteps := 1000000)
 repeat' (first | apply And.intro | intro _)
 any_goals (first | (refine hK2 _ ?_; clear hK2) | omega | (simp_all <;> omega))
 refine swp_block ?_
 refine swp_loop 11 (fun m_ s_ => ∃ (i : Nat), (i ≤ w.length) ∧ ((bkR (w.take i)).length ≤ J) ∧ s_ = ⟨[(0, .yld 10), (1, .ptr 8 0 0 1), (3, .int .i64 ((bkR (w.take i)).length : Nat)), (6, .ro (.rows 2 (w.map Sc.row))), (7, .int .i64 (w.length : Nat)), (8, .int .i64 (i : Nat))], [(10, some ⟨.lp L (psOf 117 [(4, .ptr 0 0 0 1), (8, .ptr 1 0 0 1), (9, .ptr 2 0 0 1), (10, .ptr 3 0 0 1), (11, .ptr 5 0 0 1), (14, .ptr 7 0 0 1)]), true, 0⟩), (0, some ⟨.rows 1 [[.ro (.ints .u8 bs)]], true, 22⟩), (1, some ⟨.rows 1 [[.sl 6 0 m m]], true, 56⟩), (2, some ⟨.rows 1 [[.int .i64 ((rwS bs (bkR w) p a (bkR (w.take i)).length)).p]], true, 3⟩), (3, some ⟨.rows 1 [[.int .i64 0]], true, 27⟩), (4, some ⟨.rows 2 [[.int .i64 ((rwS bs (bkR w) p a (bkR (w.take i)).length).a).1, .int .i64 ((rwS bs (bkR w) p a (bkR (w.take i)).length).a).2]], true, 109⟩), (5, some ⟨.rows 1 [[.ptr 4 0 0 1]], true, 107⟩), (6, some ⟨.rows 1 (T.map fun w => [.ro (.ints .i64 w)]), false, 23⟩), (7, some ⟨.rows 1 [[.sl 9 0 ((bkR (w.take i)).length) ((bkR (w.take i)).length)]], true, 23⟩), (8, some ⟨.rows 1 [[.ro (.rows 2 (w.map Sc.row))]], true, 61⟩), (9, some ⟨.ints .i64 (rwS bs (bkR w) p a (bkR (w.take i)).length).vs, false, 3⟩)], 11⟩ ∧ m_ = w.length - i) _ ⟨[(0, .yld 10), (1, .ptr 8 0 0 1), (3, .int .i64 ((bkR (w.take 0)).length : Nat)), (6, .ro (.rows 2 (w.map Sc.row))), (7, .int .i64 (w.length : Nat)), (8, .int .i64 (0 : Nat))], [(10, some ⟨.lp L (psOf 117 [(4, .ptr 0 0 0 1), (8, .ptr 1 0 0 1), (9, .ptr 2 0 0 1), (10, .ptr 3 0 0 1), (11, .ptr 5 0 0 1), (14, .ptr 7 0 0 1)]), true, 0⟩), (0, some ⟨.rows 1 [[.ro (.ints .u8 bs)]], true, 22⟩), (1, some ⟨.rows 1 [[.sl 6 0 m m]], true, 56⟩), (2, some ⟨.rows 1 [[.int .i64 ((rwS bs (bkR w) p a (bkR (w.take 0)).length)).p]], true, 3⟩), (3, some ⟨.rows 1 [[.int .i64 0]], true, 27⟩), (4, some ⟨.rows 2 [[.int .i64 ((rwS bs (bkR w) p a (bkR (w.take 0)).length).a).1, .int .i64 ((rwS bs (bkR w) p a (bkR (w.take 0)).length).a).2]], true, 109⟩), (5, some ⟨.rows 1 [[.ptr 4 0 0 1]], true, 107⟩), (6, some ⟨.rows 1 (T.map fun w => [.ro (.ints .i64 w)]), false, 23⟩), (7, some ⟨.rows 1 [[.sl 9 0 ((bkR (w.take 0)).length) ((bkR (w.take 0)).length)]], true, 23⟩), (8, some ⟨.rows 1 [[.ro (.rows 2 (w.map Sc.row))]], true, 61⟩), (9, some ⟨.ints .i64 (rwS bs (bkR w) p a (bkR (w.take 0)).length).vs, false, 3⟩)], 11⟩ ⟨by simp [getT, argT, PV.lo, lo1, bkR], by (simp [getH, Blk.lo, Cells.lo, lo1, bkR, aN, rwS]; try exact hplo8), rfl, by omega⟩ ⟨(0), by omega, by simp [bkR], rfl, rfl⟩ ?_
 rintro m_ s_ ⟨i, hL3_0, hL3_1, rfl, rfl⟩ KL3 hL3
 have hiw := wnext (i := i) (by omega)
 refine swp_seq fun K4 hK4 => ?_
 refine swp_region ty_ok ?_
 try simp (maxSteps := 1000000)
 repeat' (first | apply And.intro | intro _)
 any_goals (first | (refine hK4 _ ?_; clear hK4) | omega | (simp_all <;> omega))
 refine swp_seq fun K5 hK5 => ?_
 refine swp_if fun C6 hC6 => ?_
 try simp (maxSteps := 1000000)
 refine hC6 _ (fun hc6 => ?_) (fun hc6 => ?_)
 ·clear hC6
  try simp at hc6
  refine swp_skip ?_
  try simp only [thn, inBlk]
  refine hK5 _ ?_; clear hK5
  refine swp_seq fun K7 hK7 => ?_
  refine swp_block ?_
  refine swp_seq fun K8 hK8 => ?_
  have hri := sc_at (ws := w) (k := i) (by omega)
  refine swp_region ty_ok ?_
  try simp (maxSteps := 1000000) [hri]
  repeat' (first | apply And.intro | intro _)
  any_goals (first | (refine hK8 _ ?_; clear hK8) | omega | (simp_all <;> omega))
  refine swp_seq fun K9 hK9 => ?_
  refine swp_region ty_ok ?_
  try simp (maxSteps := 1000000)
  repeat' (first | apply And.intro | intro _)
  any_goals (first | (refine hK9 _ ?_; clear hK9) | omega | (simp_all <;> omega))
  refine swp_block ?_
  have hri := sc_at (ws := w) (k := i) (by omega)
  have hbi := badS_no (hw _ (mem_at (w := w) (j := i) (by omega)))
  have hbi2 : 1 ≤ (w[i]?.getD default).len ∧ (w[i]?.getD default).len ≤ 40 := hbi.1
  refine swp_loop 12 (fun m_ s_ => ∃ (c : Nat), ((c : Int) ≤ (w[i]?.getD default).len) ∧ (((bkR (w.take i)).length + c) ≤ J) ∧ s_ = ⟨[(0, .yld 10), (1, .ptr 8 0 0 1), (3, .int .i64 (((bkR (w.take i)).length + c) : Nat)), (6, .ro (.rows 2 (w.map Sc.row))), (7, .int .i64 (w.length : Nat)), (8, .int .i64 (i : Nat)), (5, .ptr 11 0 0 1), (13, .int .i64 (w[i]?.getD default).len), (14, .int .i64 (c : Nat))], [(10, some ⟨.lp L (psOf 117 [(4, .ptr 0 0 0 1), (8, .ptr 1 0 0 1), (9, .ptr 2 0 0 1), (10, .ptr 3 0 0 1), (11, .ptr 5 0 0 1), (14, .ptr 7 0 0 1)]), true, 0⟩), (0, some ⟨.rows 1 [[.ro (.ints .u8 bs)]], true, 22⟩), (1, some ⟨.rows 1 [[.sl 6 0 m m]], true, 56⟩), (2, some ⟨.rows 1 [[.int .i64 ((rwS bs (bkR w) p a ((bkR (w.take i)).length + c))).p]], true, 3⟩), (3, some ⟨.rows 1 [[.int .i64 0]], true, 27⟩), (4, some ⟨.rows 2 [[.int .i64 ((rwS bs (bkR w) p a ((bkR (w.take i)).length + c)).a).1, .int .i64 ((rwS bs (bkR w) p a ((bkR (w.take i)).length + c)).a).2]], true, 109⟩), (5, some ⟨.rows 1 [[.ptr 4 0 0 1]], true, 107⟩), (6, some ⟨.rows 1 (T.map fun w => [.ro (.ints .i64 w)]), false, 23⟩), (7, some ⟨.rows 1 [[.sl 9 0 (((bkR (w.take i)).length + c)) (((bkR (w.take i)).length + c))]], true, 23⟩), (8, some ⟨.rows 1 [[.ro (.rows 2 (w.map Sc.row))]], true, 61⟩), (9, some ⟨.ints .i64 (rwS bs (bkR w) p a ((bkR (w.take i)).length + c)).vs, false, 3⟩), (11, some ⟨.rows 2 [[.int .i64 (w[i]?.getD default).book, .int .i64 (w[i]?.getD default).len]], true, 63⟩)], 12⟩ ∧ m_ = (w[i]?.getD default).len.toNat - c) _ ⟨[(0, .yld 10), (1, .ptr 8 0 0 1), (3, .int .i64 (((bkR (w.take i)).length + 0) : Nat)), (6, .ro (.rows 2 (w.map Sc.row))), (7, .int .i64 (w.length : Nat)), (8, .int .i64 (i : Nat)), (5, .ptr 11 0 0 1), (13, .int .i64 (w[i]?.getD default).len), (14, .int .i64 (0 : Nat))], [(10, some ⟨.lp L (psOf 117 [(4, .ptr 0 0 0 1), (8, .ptr 1 0 0 1), (9, .ptr 2 0 0 1), (10, .ptr 3 0 0 1), (11, .ptr 5 0 0 1), (14, .ptr 7 0 0 1)]), true, 0⟩), (0, some ⟨.rows 1 [[.ro (.ints .u8 bs)]], true, 22⟩), (1, some ⟨.rows 1 [[.sl 6 0 m m]], true, 56⟩), (2, some ⟨.rows 1 [[.int .i64 ((rwS bs (bkR w) p a ((bkR (w.take i)).length + 0))).p]], true, 3⟩), (3, some ⟨.rows 1 [[.int .i64 0]], true, 27⟩), (4, some ⟨.rows 2 [[.int .i64 ((rwS bs (bkR w) p a ((bkR (w.take i)).length + 0)).a).1, .int .i64 ((rwS bs (bkR w) p a ((bkR (w.take i)).length + 0)).a).2]], true, 109⟩), (5, some ⟨.rows 1 [[.ptr 4 0 0 1]], true, 107⟩), (6, some ⟨.rows 1 (T.map fun w => [.ro (.ints .i64 w)]), false, 23⟩), (7, some ⟨.rows 1 [[.sl 9 0 (((bkR (w.take i)).length + 0)) (((bkR (w.take i)).length + 0))]], true, 23⟩), (8, some ⟨.rows 1 [[.ro (.rows 2 (w.map Sc.row))]], true, 61⟩), (9, some ⟨.ints .i64 (rwS bs (bkR w) p a ((bkR (w.take i)).length + 0)).vs, false, 3⟩), (11, some ⟨.rows 2 [[.int .i64 (w[i]?.getD default).book, .int .i64 (w[i]?.getD default).len]], true, 63⟩)], 12⟩ ⟨by simp [getT, argT, PV.lo, lo1], by (simp [getH, Blk.lo, Cells.lo, lo1]; try exact hplo), rfl, by omega⟩ ⟨(0), by omega, by omega, rfl, rfl⟩ ?_
  rintro m_ s_ ⟨c, hL10_0, hL10_1, rfl, rfl⟩ KL10 hL10
  have hcw := wnext (i := c) (by omega)
  refine swp_seq fun K11 hK11 => ?_
  refine swp_region ty_ok ?_
  try simp (maxSteps := 1000000)
  repeat' (first | apply And.intro | intro _)
  any_goals (first | (refine hK11 _ ?_; clear hK11) | omega | (simp_all <;> omega))
  refine swp_seq fun K12 hK12 => ?_
  refine swp_if fun C13 hC13 => ?_
  try simp (maxSteps := 1000000)
  refine hC13 _ (fun hc13 => ?_) (fun hc13 => ?_)
  ·clear hC13
   try simp at hc13
   refine swp_skip ?_
   try simp only [thn, inBlk]
   refine hK12 _ ?_; clear hK12
   refine swp_seq fun K14 hK14 => ?_
   refine swp_block ?_
   refine swp_seq fun K15 hK15 => ?_
   refine swp_seq fun K16 hK16 => ?_
   obtain ⟨hc1, hc2⟩ := bkR_cut (l := w) (i := i) (c := c) (by omega) (by omega)
   have hb0 : 0 ≤ (w[i]?.getD default).book := hbi.2.1
   by_cases hy17 : ((bkR (w.take i)).length + c) < J
   ·
    refine swp_yield ty_ok 4 _ rfl ?_
    try simp (maxSteps := 1000000) [List.take_succ_cons, List.take_zero, List.drop_succ_cons, List.drop_zero, List.take_nil, List.drop_nil]
    have hoat := rwE_mono (k := ((bkR (w.take i)).length + c)) (by omega) j2
    have hrat := rwE_at j2 hy17
    rw [hc1] at hrat
    have hs1 : ((bkR (w.take i)).length + c) + 1 = (bkR (w.take i)).length + (c + 1) := by omega
    have hrl := rwS_len bs (bkR w) p a ((bkR (w.take i)).length + c)
    have hYp := rwP_bd (b := bs) (bs := bkR w) (a := a) (p := p) hp255 hm ⟨by omega, by omega⟩ ((bkR (w.take i)).length + c)
    refine ⟨16, [17, 19], _, 10, L, (psOf 117 [(4, .ptr 0 0 0 1), (8, .ptr 1 0 0 1), (9, .ptr 2 0 0 1), (10, .ptr 3 0 0 1), (11, .ptr 5 0 0 1), (14, .ptr 7 0 0 1)]), 0, [(10, some ⟨.lp L (psOf 117 [(4, .ptr 0 0 0 1), (8, .ptr 1 0 0 1), (9, .ptr 2 0 0 1), (10, .ptr 3 0 0 1), (11, .ptr 5 0 0 1), (14, .ptr 7 0 0 1)]), true, 0⟩), (0, some ⟨.rows 1 [[.ro (.ints .u8 bs)]], true, 22⟩), (1, some ⟨.rows 1 [[.sl 6 0 m m]], true, 56⟩), (2, some ⟨.rows 1 [[.int .i64 ((rwS bs (bkR w) p a ((bkR (w.take i)).length + c))).p]], true, 3⟩), (3, some ⟨.rows 1 [[.int .i64 0]], true, 27⟩), (4, some ⟨.rows 2 [[.int .i64 ((rwS bs (bkR w) p a ((bkR (w.take i)).length + c)).a).1, .int .i64 ((rwS bs (bkR w) p a ((bkR (w.take i)).length + c)).a).2]], true, 109⟩), (5, some ⟨.rows 1 [[.ptr 4 0 0 1]], true, 107⟩), (6, some ⟨.rows 1 (T.map fun w => [.ro (.ints .i64 w)]), false, 23⟩), (7, some ⟨.rows 1 [[.sl 9 0 (((bkR (w.take i)).length + c)) (((bkR (w.take i)).length + c))]], true, 23⟩), (8, some ⟨.rows 1 [[.ro (.rows 2 (w.map Sc.row))]], true, 61⟩), (9, some ⟨.ints .i64 (rwS bs (bkR w) p a ((bkR (w.take i)).length + c)).vs, false, 3⟩), (11, some ⟨.rows 2 [[.int .i64 (w[i]?.getD default).book, .int .i64 (w[i]?.getD default).len]], true, 63⟩)], 12, [(2, some ⟨.rows 1 [[.int .i64 ((rwS bs (bkR w) p a (((bkR (w.take i)).length + c) + 1))).p]], true, 3⟩), (4, some ⟨.rows 2 [[.int .i64 ((rwS bs (bkR w) p a (((bkR (w.take i)).length + c) + 1)).a).1, .int .i64 ((rwS bs (bkR w) p a (((bkR (w.take i)).length + c) + 1)).a).2]], true, 109⟩), (7, some ⟨.rows 1 [[.sl 9 0 (((bkR (w.take i)).length + c) + 1) (((bkR (w.take i)).length + c) + 1)]], true, 23⟩), (9, some ⟨.ints .i64 (rwS bs (bkR w) p a (((bkR (w.take i)).length + c) + 1)).vs, false, 3⟩)], rfl, rfl, by simp [getT], by simp [getH], (by intro id; simp only [getH]; repeat' split <;> simp_all), (by simp), (by have h := get_ry bs hm hp m T ((bkR (w.take i)).length + c) (rwS bs (bkR w) p a ((bkR (w.take i)).length + c)).vs hrl (by omega) (rwS bs (bkR w) p a ((bkR (w.take i)).length + c)).p hYp (rwS bs (bkR w) p a ((bkR (w.take i)).length + c)).a (rwA_ok hp hpp ha hoat) w (w[i]?.getD default) (w[i]?.getD default).book hb0 hrat L hst hpd hprm hasg hbod hsz; rw [← rwP_succ hc1, ← rwA_succ hc1, ← rwV_succ hc1] at h; simpa [getT] using h), ?_⟩
    try simp (maxSteps := 1000000) [List.take_succ_cons, List.take_zero, List.drop_succ_cons, List.drop_zero]
    repeat' (first | apply And.intro | intro _)
    any_goals (first | (refine hK16 _ ?_; clear hK16) | omega | (simp_all <;> omega))
    refine swp_if fun C19 hC19 => ?_
    try simp (maxSteps := 1000000)
    refine hC19 _ (fun hc19 => ?_) (fun hc19 => ?_)
    ·exact absurd hc19 (by simp)
    ·clear hC19
     try simp at hc19
     refine swp_skip ?_
     try simp only [thn, inBlk]
     refine hK15 _ ?_; clear hK15
     have hatw : IntKind.i64.wrap (((bkR (w.take i)).length : Int) + (c : Int) + 1) = ((bkR (w.take i)).length : Int) + ((c : Int) + 1) := by rw [w64 (by omega)]; omega
     refine swp_region ty_ok ?_
     try simp (maxSteps := 1000000) [hatw]
     repeat' (first | apply And.intro | intro _)
     any_goals (first | (refine hK14 _ ?_; clear hK14) | omega | (simp_all <;> omega))
     refine swp_region ty_ok ?_
     try simp (maxSteps := 1000000)
     repeat' apply And.intro
     any_goals (try omega)
     refine hL10 _ ⟨[(0, .yld 10), (1, .ptr 8 0 0 1), (3, .int .i64 (((bkR (w.take i)).length + (c + 1)) : Nat)), (6, .ro (.rows 2 (w.map Sc.row))), (7, .int .i64 (w.length : Nat)), (8, .int .i64 (i : Nat)), (5, .ptr 11 0 0 1), (13, .int .i64 (w[i]?.getD default).len), (14, .int .i64 ((c + 1) : Nat))], [(10, some ⟨.lp L (psOf 117 [(4, .ptr 0 0 0 1), (8, .ptr 1 0 0 1), (9, .ptr 2 0 0 1), (10, .ptr 3 0 0 1), (11, .ptr 5 0 0 1), (14, .ptr 7 0 0 1)]), true, 0⟩), (0, some ⟨.rows 1 [[.ro (.ints .u8 bs)]], true, 22⟩), (1, some ⟨.rows 1 [[.sl 6 0 m m]], true, 56⟩), (2, some ⟨.rows 1 [[.int .i64 ((rwS bs (bkR w) p a ((bkR (w.take i)).length + (c + 1)))).p]], true, 3⟩), (3, some ⟨.rows 1 [[.int .i64 0]], true, 27⟩), (4, some ⟨.rows 2 [[.int .i64 ((rwS bs (bkR w) p a ((bkR (w.take i)).length + (c + 1))).a).1, .int .i64 ((rwS bs (bkR w) p a ((bkR (w.take i)).length + (c + 1))).a).2]], true, 109⟩), (5, some ⟨.rows 1 [[.ptr 4 0 0 1]], true, 107⟩), (6, some ⟨.rows 1 (T.map fun w => [.ro (.ints .i64 w)]), false, 23⟩), (7, some ⟨.rows 1 [[.sl 9 0 (((bkR (w.take i)).length + (c + 1))) (((bkR (w.take i)).length + (c + 1)))]], true, 23⟩), (8, some ⟨.rows 1 [[.ro (.rows 2 (w.map Sc.row))]], true, 61⟩), (9, some ⟨.ints .i64 (rwS bs (bkR w) p a ((bkR (w.take i)).length + (c + 1))).vs, false, 3⟩), (11, some ⟨.rows 2 [[.int .i64 (w[i]?.getD default).book, .int .i64 (w[i]?.getD default).len]], true, 63⟩)], 12⟩ _ ?_ ⟨(c + 1), by omega, by omega, rfl, rfl⟩ ⟨by (simp [getT, PV.lo, lo1, hcw, hatw]; try omega), by (try rw [hs1]; simp [getH, Blk.lo, Cells.lo, lo1, hc1]; (try (repeat' apply And.intro)); all_goals (first | exact hplo | omega)), rfl, by omega⟩
     omega
   ·
    refine swp_yieldJ ty_ok 4 _ rfl ?_
    try simp (maxSteps := 1000000) [List.take_succ_cons, List.take_zero, List.drop_succ_cons, List.drop_zero, List.take_nil, List.drop_nil]
    obtain rfl : J = ((bkR (w.take i)).length + c) := by omega
    have hoat := j2
    have hrat := j3
    rw [hc1] at hrat
    have hrl := rwS_len bs (bkR w) p a ((bkR (w.take i)).length + c)
    have hYp := rwP_bd (b := bs) (bs := bkR w) (a := a) (p := p) hp255 hm ⟨by omega, by omega⟩ ((bkR (w.take i)).length + c)
    refine ⟨16, [17, 19], _, 10, L, (psOf 117 [(4, .ptr 0 0 0 1), (8, .ptr 1 0 0 1), (9, .ptr 2 0 0 1), (10, .ptr 3 0 0 1), (11, .ptr 5 0 0 1), (14, .ptr 7 0 0 1)]), 0, [(10, some ⟨.lp L (psOf 117 [(4, .ptr 0 0 0 1), (8, .ptr 1 0 0 1), (9, .ptr 2 0 0 1), (10, .ptr 3 0 0 1), (11, .ptr 5 0 0 1), (14, .ptr 7 0 0 1)]), true, 0⟩), (0, some ⟨.rows 1 [[.ro (.ints .u8 bs)]], true, 22⟩), (1, some ⟨.rows 1 [[.sl 6 0 m m]], true, 56⟩), (2, some ⟨.rows 1 [[.int .i64 ((rwS bs (bkR w) p a ((bkR (w.take i)).length + c))).p]], true, 3⟩), (3, some ⟨.rows 1 [[.int .i64 0]], true, 27⟩), (4, some ⟨.rows 2 [[.int .i64 ((rwS bs (bkR w) p a ((bkR (w.take i)).length + c)).a).1, .int .i64 ((rwS bs (bkR w) p a ((bkR (w.take i)).length + c)).a).2]], true, 109⟩), (5, some ⟨.rows 1 [[.ptr 4 0 0 1]], true, 107⟩), (6, some ⟨.rows 1 (T.map fun w => [.ro (.ints .i64 w)]), false, 23⟩), (7, some ⟨.rows 1 [[.sl 9 0 (((bkR (w.take i)).length + c)) (((bkR (w.take i)).length + c))]], true, 23⟩), (8, some ⟨.rows 1 [[.ro (.rows 2 (w.map Sc.row))]], true, 61⟩), (9, some ⟨.ints .i64 (rwS bs (bkR w) p a ((bkR (w.take i)).length + c)).vs, false, 3⟩), (11, some ⟨.rows 2 [[.int .i64 (w[i]?.getD default).book, .int .i64 (w[i]?.getD default).len]], true, 63⟩)], 12, [(1, some ⟨.rows 1 [[.nil (.rows 1 [])]], true, 56⟩), (2, some ⟨.rows 1 [[.int .i64 0]], true, 3⟩), (3, some ⟨.rows 1 [[.int .i64 e]], true, 27⟩)], .ret, rfl, rfl, by simp [getT], by simp [getH], (by intro id; simp only [getH]; repeat' split <;> simp_all), (by simp), (by have h := get_rn bs hm hp m T ((bkR (w.take i)).length + c) (rwS bs (bkR w) p a ((bkR (w.take i)).length + c)).vs hrl (by omega) (rwS bs (bkR w) p a ((bkR (w.take i)).length + c)).p hYp (rwS bs (bkR w) p a ((bkR (w.take i)).length + c)).a (rwA_ok hp hpp ha hoat) w (w[i]?.getD default) (w[i]?.getD default).book hb0 e hrat he L hst hpd hprm hasg hbod hsz; simpa [getT] using h), ?_⟩
    try simp (maxSteps := 1000000) [List.take_succ_cons, List.take_zero, List.drop_succ_cons, List.drop_zero]
    repeat' (first | apply And.intro | intro _)
    any_goals (first | (refine hK16 _ ?_; clear hK16) | omega | (simp_all <;> omega))
    refine swp_if fun C21 hC21 => ?_
    try simp (maxSteps := 1000000)
    refine hC21 _ (fun hc21 => ?_) (fun hc21 => ?_)
    ·clear hC21
     try simp at hc21
     refine swp_ret ?_
     simp [fnPostH, PV.inR, inR1, PV.inL, inL1, Blk.inL, Cells.inL, put_at, Try.results104, resP, tupOf]
     intro y hy
     rcases psOf_mem hy with rfl | ⟨p, hp, rfl⟩
     ·rfl
     ·simp only [List.mem_cons, List.not_mem_nil, or_false] at hp
      rcases hp with rfl | rfl | rfl | rfl | rfl | rfl <;> simp [inL1]
    ·exact absurd hc21 (by simp)
  ·clear hC13
   try simp at hc13
   refine swp_exit ?_
   simp [thn, inBlk]
   refine hK7 _ ?_; clear hK7
   refine swp_region ty_ok ?_
   try simp (maxSteps := 1000000)
   repeat' apply And.intro
   any_goals (try omega)
   refine hL3 _ ⟨[(0, .yld 10), (1, .ptr 8 0 0 1), (3, .int .i64 ((bkR (w.take (i + 1))).length : Nat)), (6, .ro (.rows 2 (w.map Sc.row))), (7, .int .i64 (w.length : Nat)), (8, .int .i64 ((i + 1) : Nat))], [(10, some ⟨.lp L (psOf 117 [(4, .ptr 0 0 0 1), (8, .ptr 1 0 0 1), (9, .ptr 2 0 0 1), (10, .ptr 3 0 0 1), (11, .ptr 5 0 0 1), (14, .ptr 7 0 0 1)]), true, 0⟩), (0, some ⟨.rows 1 [[.ro (.ints .u8 bs)]], true, 22⟩), (1, some ⟨.rows 1 [[.sl 6 0 m m]], true, 56⟩), (2, some ⟨.rows 1 [[.int .i64 ((rwS bs (bkR w) p a (bkR (w.take (i + 1))).length)).p]], true, 3⟩), (3, some ⟨.rows 1 [[.int .i64 0]], true, 27⟩), (4, some ⟨.rows 2 [[.int .i64 ((rwS bs (bkR w) p a (bkR (w.take (i + 1))).length).a).1, .int .i64 ((rwS bs (bkR w) p a (bkR (w.take (i + 1))).length).a).2]], true, 109⟩), (5, some ⟨.rows 1 [[.ptr 4 0 0 1]], true, 107⟩), (6, some ⟨.rows 1 (T.map fun w => [.ro (.ints .i64 w)]), false, 23⟩), (7, some ⟨.rows 1 [[.sl 9 0 ((bkR (w.take (i + 1))).length) ((bkR (w.take (i + 1))).length)]], true, 23⟩), (8, some ⟨.rows 1 [[.ro (.rows 2 (w.map Sc.row))]], true, 61⟩), (9, some ⟨.ints .i64 (rwS bs (bkR w) p a (bkR (w.take (i + 1))).length).vs, false, 3⟩)], 11⟩ _ ?_ ⟨(i + 1), by omega, by (have htl := take_len (w := w) (i := i) (c := c) (by omega) (by omega); omega), rfl, rfl⟩ ⟨by (have htl := take_len (w := w) (i := i) (c := c) (by omega) (by omega); simp [getT, PV.lo, lo1, hiw, htl]), by (have htl := take_len (w := w) (i := i) (c := c) (by omega) (by omega); rw [htl]; simp [getH, Blk.lo, Cells.lo, lo1]; try exact hplo8), rfl, by omega⟩
   omega
 ·clear hC6
  try simp at hc6
  refine swp_exit ?_
  simp [thn, inBlk]
  simp [fnPostH, PV.inR, inR1, PV.inL, inL1, Blk.inL, Cells.inL, put_at, Try.results104, resP, tupOf]
  exfalso
  have := take_all (w := w) (i := i) (by omega)
  omega

set_option maxHeartbeats 8000000 in
theorem get20_ok (bs : List Int) (at_ ga : Int) (l : List (List Sc)) (hm : bs.length ≤ 1000000) (hp : ∀ y ∈ bs, 0 ≤ y ∧ y ≤ 255) (hat : -9223372036854775808 ≤ at_ ∧ at_ ≤ 9223372036854775807) (hl : l.length ≤ 1000000) (hw : ∀ w ∈ l, w.length ≤ 1000000) : PCall Try.prog 36 [.ro (.ints .u8 bs), .int .i64 at_, .int .i64 ga, .ro (.rows 1 (l.map fun w => [.ro (.rows 2 (w.map Sc.row))]))] (.tup [.ro (.rows 1 ((sgR bs at_ ga l).1.map fun w => [.ro (.ints .i64 w)])), .int .i64 (sgR bs at_ ga l).2.1, .int .i64 (sgR bs at_ ga l).2.2]) := by
 have hp255 : ∀ k : Nat, 0 ≤ bs[k]?.getD 0 ∧ bs[k]?.getD 0 ≤ 255 := fun k => by
  cases hk : bs[k]? with
  | none => exact ⟨by decide, by decide⟩
  | some v => exact hp v (List.mem_of_getElem? hk)
 refine pcall_body ty_ok Try.func36 rfl (by rfl) (by simp) ?_
 rw [Try.ntmps36]
 refine swp_seq fun K1 hK1 => ?_
 refine swp_region ty_ok ?_
 try simp (maxSteps := 1000000)
 repeat' (first | apply And.intro | intro _)
 any_goals (first | (refine hK1 _ ?_; clear hK1) | omega | (simp_all <;> omega))
 refine swp_seq fun K2 hK2 => ?_
 refine swp_seq fun K3 hK3 => ?_
 refine swp_region ty_ok ?_
 refine runs_cut 2 fun R4 hR4 => ?_
 try simp (maxSteps := 1000000) [List.take_succ_cons, List.take_zero, List.drop_succ_cons, List.drop_zero]
 repeat' (first | apply And.intro | intro _)
 any_goals (first | (refine hR4 _ ?_; clear hR4) | omega | (simp_all <;> omega))
 refine runs_cut 1 fun R5 hR5 => ?_
 try simp (maxSteps := 1000000) [List.take_succ_cons, List.take_zero, List.drop_succ_cons, List.drop_zero]
 refine .inl ⟨_, smay_ok ga l hl hw, ?_⟩
 try simp (maxSteps := 1000000)
 repeat' (first | apply And.intro | intro _)
 any_goals (first | (refine hR5 _ ?_; clear hR5) | omega | (simp_all <;> omega))
 try simp (maxSteps := 1000000) [List.take_succ_cons, List.take_zero, List.drop_succ_cons, List.drop_zero]
 repeat' (first | apply And.intro | intro _)
 any_goals (first | (refine hK3 _ ?_; clear hK3) | omega | (simp_all <;> omega))
 refine swp_if fun C6 hC6 => ?_
 try simp (maxSteps := 1000000)
 refine hC6 _ (fun hc6 => ?_) (fun hc6 => ?_)
 ·clear hC6
  try simp at hc6
  refine swp_seq fun K7 hK7 => ?_
  refine swp_region ty_ok ?_
  try simp (maxSteps := 1000000)
  repeat' (first | apply And.intro | intro _)
  any_goals (first | (refine hK7 _ ?_; clear hK7) | omega | (simp_all <;> omega))
  refine swp_ret ?_
  simp [fnPost, Try.results36, resP, tupOf]
  have hmg : mayG ga l = false := by have h := hc6; simpa using h
  rw [sgR_1 hmg]
  exact ⟨rfl, rfl, rfl⟩
 ·clear hC6
  try simp at hc6
  refine swp_skip ?_
  try simp only [thn, inBlk]
  refine hK2 _ ?_; clear hK2
  refine swp_seq fun K8 hK8 => ?_
  refine swp_seq fun K9 hK9 => ?_
  have hmg : mayG ga l = true := by have h := hc6; simpa using h
  obtain ⟨hga, hmm⟩ := mayG_true hmg
  refine swp_region ty_ok ?_
  refine runs_cut 2 fun R10 hR10 => ?_
  try simp (maxSteps := 1000000) [List.take_succ_cons, List.take_zero, List.drop_succ_cons, List.drop_zero]
  repeat' (first | apply And.intro | intro _)
  any_goals (first | (refine hR10 _ ?_; clear hR10) | omega | (simp_all <;> omega))
  refine runs_cut 1 fun R11 hR11 => ?_
  try simp (maxSteps := 1000000) [List.take_succ_cons, List.take_zero, List.drop_succ_cons, List.drop_zero]
  refine .inl ⟨_, get_ok bs at_ 0 (by omega) hp255 (by omega), ?_⟩
  try simp (maxSteps := 1000000)
  repeat' (first | apply And.intro | intro _)
  any_goals (first | (refine hR11 _ ?_; clear hR11) | omega | (simp_all <;> omega))
  try simp (maxSteps := 1000000) [List.take_succ_cons, List.take_zero, List.drop_succ_cons, List.drop_zero]
  repeat' (first | apply And.intro | intro _)
  any_goals (first | (refine hK9 _ ?_; clear hK9) | omega | (simp_all <;> omega))
  refine swp_seq fun K12 hK12 => ?_
  refine swp_region ty_ok ?_
  try simp (maxSteps := 1000000)
  repeat' (first | apply And.intro | intro _)
  any_goals (first | (refine hK12 _ ?_; clear hK12) | omega | (simp_all <;> omega))
  refine swp_if fun C13 hC13 => ?_
  try simp (maxSteps := 1000000)
  refine hC13 _ (fun hc13 => ?_) (fun hc13 => ?_)
  ·clear hC13
   try simp at hc13
   refine swp_seq fun K14 hK14 => ?_
   refine swp_draw ty_ok mixed (ms := [0, 0, 2, 7]) (by kernel_rfl) ?_
   try simp (maxSteps := 1000000)
   repeat' (first | apply And.intro | intro _)
   any_goals (first | kernel_rfl | (refine hK14 _ ?_; clear hK14) | omega | (simp_all <;> omega))
   refine swp_ret ?_
   simp [fnPost, Try.results36, resP, tupOf]
   rw [sgR_2 hmg hc13]
   exact ⟨rfl, rfl, rfl⟩
  ·clear hC13
   try simp at hc13
   refine swp_skip ?_
   try simp only [thn, inBlk]
   refine hK8 _ ?_; clear hK8
   refine swp_seq fun K16 hK16 => ?_
   have he0 : getE bs at_ 0 = 0 := by have h := hc13; simpa using h
   have hpz := getP_0 he0
   obtain ⟨k1, k2, k3, k4⟩ := getE_zero he0
   have hain : 0 ≤ at_ ∧ at_ ≤ bs.length := ⟨k3, by omega⟩
   refine swp_region ty_ok ?_
   try simp (maxSteps := 1000000) [hpz, he0]
   repeat' (first | apply And.intro | intro _)
   any_goals (first | (refine hK16 _ ?_; clear hK16) | omega | (simp_all <;> omega))
   refine swp_seq fun K17 hK17 => ?_
   refine swp_seq fun K18 hK18 => ?_
   refine swp_region ty_ok ?_
   try simp (maxSteps := 1000000)
   repeat' (first | apply And.intro | intro _)
   any_goals (first | (refine hK18 _ ?_; clear hK18) | omega | (simp_all <;> omega))
   refine swp_block ?_
   refine swp_ownb 1 0 23 (by rfl) (by rfl) (by rfl) ?_
   simp only [List.set]
   refine swp_loop 7 (fun m_ s_ => ∃ (k : Nat), (k ≤ l.length) ∧ (gE bs l ga at_ k = 0) ∧ s_ = ⟨[(4, .ptr 0 0 0 1), (8, .ptr 1 0 0 1), (9, .ptr 2 0 0 1), (10, .ptr 3 0 0 1), (11, .ptr 5 0 0 1), (35, .ro (.rows 1 (l.map fun w => [.ro (.rows 2 (w.map Sc.row))]))), (36, .int .i64 (l.length : Nat)), (37, .int .i64 (k : Nat))], [(0, some ⟨.rows 1 [[.ro (.ints .u8 bs)]], true, 22⟩), (1, some ⟨.rows 1 [[.sl 6 0 k k]], true, 56⟩), (2, some ⟨.rows 1 [[.int .i64 (gS bs l ga at_ k).p]], true, 3⟩), (3, some ⟨.rows 1 [[.int .i64 0]], true, 27⟩), (4, some ⟨.rows 2 [[.int .i64 ((gS bs l ga at_ k).a).1, .int .i64 ((gS bs l ga at_ k).a).2]], true, 109⟩), (5, some ⟨.rows 1 [[.ptr 4 0 0 1]], true, 107⟩), (6, some ⟨.rows 1 ((gS bs l ga at_ k).rows.map fun w => [.ro (.ints .i64 w)]), false, 23⟩)], 7⟩ ∧ m_ = l.length - k) _ ⟨[(4, .ptr 0 0 0 1), (8, .ptr 1 0 0 1), (9, .ptr 2 0 0 1), (10, .ptr 3 0 0 1), (11, .ptr 5 0 0 1), (35, .ro (.rows 1 (l.map fun w => [.ro (.rows 2 (w.map Sc.row))]))), (36, .int .i64 (l.length : Nat)), (37, .int .i64 (0 : Nat))], [(0, some ⟨.rows 1 [[.ro (.ints .u8 bs)]], true, 22⟩), (1, some ⟨.rows 1 [[.sl 6 0 0 0]], true, 56⟩), (2, some ⟨.rows 1 [[.int .i64 (gS bs l ga at_ 0).p]], true, 3⟩), (3, some ⟨.rows 1 [[.int .i64 0]], true, 27⟩), (4, some ⟨.rows 2 [[.int .i64 ((gS bs l ga at_ 0).a).1, .int .i64 ((gS bs l ga at_ 0).a).2]], true, 109⟩), (5, some ⟨.rows 1 [[.ptr 4 0 0 1]], true, 107⟩), (6, some ⟨.rows 1 ((gS bs l ga at_ 0).rows.map fun w => [.ro (.ints .i64 w)]), false, 23⟩)], 7⟩ ⟨by simp [getT, PV.lo, lo1], by simp [getH, Blk.lo, Cells.lo, lo1, gS, hpz, he0], rfl, by omega⟩ ⟨(0), by omega, by rfl, rfl, rfl⟩ ?_
   rintro m_ s_ ⟨k, hL19_0, hL19_1, rfl, rfl⟩ KL19 hL19
   have hkw := wnext (i := k) (by omega)
   refine swp_seq fun K20 hK20 => ?_
   refine swp_region ty_ok ?_
   try simp (maxSteps := 1000000)
   repeat' (first | apply And.intro | intro _)
   any_goals (first | (refine hK20 _ ?_; clear hK20) | omega | (simp_all <;> omega))
   refine swp_seq fun K21 hK21 => ?_
   refine swp_if fun C22 hC22 => ?_
   try simp (maxSteps := 1000000)
   refine hC22 _ (fun hc22 => ?_) (fun hc22 => ?_)
   ·clear hC22
    try simp at hc22
    refine swp_skip ?_
    try simp only [thn, inBlk]
    refine hK21 _ ?_; clear hK21
    refine swp_seq fun K23 hK23 => ?_
    refine swp_block ?_
    refine swp_seq fun K24 hK24 => ?_
    have hrowS := s_at (l := l) (k := k) (by omega)
    obtain ⟨hR1, hR2, hR3, hR4⟩ := RW_F (k := k) (by omega) hmm
    have hRe : RW l k = bkR (l[k]?.getD []) := rfl
    obtain ⟨hgA, hgp⟩ := gA_ok hp hain ⟨hga.1, hga.2.1⟩ (k := k) (by assumption)
    have hGl := gS_len bs l ga at_ k
    rw [hRe] at hR1
    refine swp_region ty_ok ?_
    try simp (maxSteps := 1000000) [hrowS]
    repeat' (first | apply And.intro | intro _)
    any_goals (first | (refine hK24 _ ?_; clear hK24) | omega | (simp_all <;> omega))
    refine swp_seq fun K25 hK25 => ?_
    refine swp_region ty_ok ?_
    try simp (maxSteps := 1000000)
    repeat' (first | apply And.intro | intro _)
    any_goals (first | (refine hK25 _ ?_; clear hK25) | omega | (simp_all <;> omega))
    refine swp_seq fun K26 hK26 => ?_
    refine swp_seq fun K27 hK27 => ?_
    refine swp_region ty_ok ?_
    refine runs_cut 1 fun R28 hR28 => ?_
    try simp (maxSteps := 1000000) [List.take_succ_cons, List.take_zero, List.drop_succ_cons, List.drop_zero]
    repeat' (first | apply And.intro | intro _)
    any_goals (first | (refine hR28 _ ?_; clear hR28) | omega | (simp_all <;> omega))
    try simp (maxSteps := 1000000) [List.take_succ_cons, List.take_zero, List.drop_succ_cons, List.drop_zero]
    refine .inr (hcl_mk (bands_ok 8 (l[k]?.getD [])) (by simp [PV.ids, id1, getH, Blk.inL, Cells.inL, inL1]) (by simp [PV.inL, inL1]) (by simp) ?_)
    try simp (maxSteps := 1000000)
    repeat' (first | apply And.intro | intro _)
    any_goals (first | (refine hK27 _ ?_; clear hK27) | omega | (simp_all <;> omega))
    refine swp_block ?_
    refine swp_ownb 7 0 3 (by rfl) (by rfl) (by rfl) ?_
    simp only [List.set]
    by_cases hy29 : rwE bs (bkR (l[k]?.getD [])) (gS bs l ga at_ k).p (gS bs l ga at_ k).a (bkR (l[k]?.getD [])).length = 0
    ·
     have hok := hy29
     have hrl := rwS_len bs (bkR (l[k]?.getD [])) (gS bs l ga at_ k).p (gS bs l ga at_ k).a (bkR (l[k]?.getD [])).length
     refine swp_rf 104 [.ptr 8 0 0 1] [(4, .ptr 0 0 0 1), (8, .ptr 1 0 0 1), (9, .ptr 2 0 0 1), (10, .ptr 3 0 0 1), (11, .ptr 5 0 0 1), (14, .ptr 7 0 0 1)] [(0, some ⟨.rows 1 [[.ro (.ints .u8 bs)]], true, 22⟩), (1, some ⟨.rows 1 [[.sl 6 0 k k]], true, 56⟩), (2, some ⟨.rows 1 [[.int .i64 (gS bs l ga at_ k).p]], true, 3⟩), (3, some ⟨.rows 1 [[.int .i64 0]], true, 27⟩), (4, some ⟨.rows 2 [[.int .i64 ((gS bs l ga at_ k).a).1, .int .i64 ((gS bs l ga at_ k).a).2]], true, 109⟩), (5, some ⟨.rows 1 [[.ptr 4 0 0 1]], true, 107⟩), (6, some ⟨.rows 1 ((gS bs l ga at_ k).rows.map fun w => [.ro (.ints .i64 w)]), false, 23⟩), (7, some ⟨.rows 1 [[.sl 9 0 0 0]], true, 23⟩), (8, some ⟨.rows 1 [[.ro (.rows 2 ((l[k]?.getD []).map Sc.row))]], true, 61⟩), (9, some ⟨.ints .i64 [], false, 3⟩)] 11 (.tup []) [(2, some ⟨.rows 1 [[.int .i64 ((rwS bs (bkR (l[k]?.getD [])) (gS bs l ga at_ k).p (gS bs l ga at_ k).a (bkR (l[k]?.getD [])).length)).p]], true, 3⟩), (4, some ⟨.rows 2 [[.int .i64 ((rwS bs (bkR (l[k]?.getD [])) (gS bs l ga at_ k).p (gS bs l ga at_ k).a (bkR (l[k]?.getD [])).length).a).1, .int .i64 ((rwS bs (bkR (l[k]?.getD [])) (gS bs l ga at_ k).p (gS bs l ga at_ k).a (bkR (l[k]?.getD [])).length).a).2]], true, 109⟩), (7, some ⟨.rows 1 [[.sl 9 0 (bkR (l[k]?.getD [])).length (bkR (l[k]?.getD [])).length]], true, 23⟩), (9, some ⟨.ints .i64 (rwS bs (bkR (l[k]?.getD [])) (gS bs l ga at_ k).p (gS bs l ga at_ k).a (bkR (l[k]?.getD [])).length).vs, false, 3⟩)] (by simp [getT]) (by simp [getT]) (by intro q; by_cases e0 : 0 = q; (subst e0; simp [getH, s_at]); by_cases e1 : 1 = q; (subst e1; simp [getH, s_at]); by_cases e2 : 2 = q; (subst e2; simp [getH, s_at]); by_cases e3 : 3 = q; (subst e3; simp [getH, s_at]); by_cases e4 : 4 = q; (subst e4; simp [getH, s_at]); by_cases e5 : 5 = q; (subst e5; simp [getH, s_at]); by_cases e6 : 6 = q; (subst e6; simp [getH, s_at]); by_cases e7 : 7 = q; (subst e7; simp [getH, s_at]); by_cases e8 : 8 = q; (subst e8; simp [getH, s_at]); by_cases e9 : 9 = q; (subst e9; simp [getH, s_at]); simp [getH, e0, e1, e2, e3, e4, e5, e6, e7, e8, e9]) (by simp) (by simp) (fun L h1 h2 h3 h4 h5 h6 => (by have h := get_by L h1 h2 h3 (h4.trans rfl) (h5.trans rfl) h6 bs hm hp k (gS bs l ga at_ k).rows (gS_len bs l ga at_ k) (gS bs l ga at_ k).p hgp (gS bs l ga at_ k).a hgA (l[k]?.getD []) hR4 hR3 hR1 hok; first | exact h | simpa using h)) ?_
     simp only [onL, nxt]
     try simp only [thn, inBlk]
     refine hK26 _ ?_; clear hK26
     refine swp_region ty_ok ?_
     refine runs_cut 2 fun R30 hR30 => ?_
     try simp (maxSteps := 1000000) [List.take_succ_cons, List.take_zero, List.drop_succ_cons, List.drop_zero]
     repeat' (first | apply And.intro | intro _)
     any_goals (first | (refine hR30 _ ?_; clear hR30) | omega | (simp_all <;> omega))
     refine runs_cut 1 fun R31 hR31 => ?_
     try simp (maxSteps := 1000000) [List.take_succ_cons, List.take_zero, List.drop_succ_cons, List.drop_zero]
     repeat' (first | apply And.intro | intro _)
     any_goals (first | (refine Or.inl (hR31 _ ?_); clear hR31) | omega | (simp_all <;> omega))
     try simp (maxSteps := 1000000) [List.take_succ_cons, List.take_zero, List.drop_succ_cons, List.drop_zero]
     repeat' (first | apply And.intro | intro _)
     any_goals (first | (refine hK23 _ ?_; clear hK23) | omega | (simp_all <;> omega))
     refine swp_region ty_ok ?_
     try simp (maxSteps := 1000000)
     repeat' apply And.intro
     any_goals (try omega)
     refine hL19 _ ⟨[(4, .ptr 0 0 0 1), (8, .ptr 1 0 0 1), (9, .ptr 2 0 0 1), (10, .ptr 3 0 0 1), (11, .ptr 5 0 0 1), (35, .ro (.rows 1 (l.map fun w => [.ro (.rows 2 (w.map Sc.row))]))), (36, .int .i64 (l.length : Nat)), (37, .int .i64 ((k + 1) : Nat))], [(0, some ⟨.rows 1 [[.ro (.ints .u8 bs)]], true, 22⟩), (1, some ⟨.rows 1 [[.sl 6 0 (k + 1) (k + 1)]], true, 56⟩), (2, some ⟨.rows 1 [[.int .i64 (gS bs l ga at_ (k + 1)).p]], true, 3⟩), (3, some ⟨.rows 1 [[.int .i64 0]], true, 27⟩), (4, some ⟨.rows 2 [[.int .i64 ((gS bs l ga at_ (k + 1)).a).1, .int .i64 ((gS bs l ga at_ (k + 1)).a).2]], true, 109⟩), (5, some ⟨.rows 1 [[.ptr 4 0 0 1]], true, 107⟩), (6, some ⟨.rows 1 ((gS bs l ga at_ (k + 1)).rows.map fun w => [.ro (.ints .i64 w)]), false, 23⟩)], 7⟩ _ ?_ ⟨(k + 1), by omega, by (rw [gE, if_pos (by assumption), hRe]; assumption), rfl, rfl⟩ ⟨by simp [getT, PV.lo, lo1, hkw], by simp [getH, Blk.lo, Cells.lo, lo1, gS, hRe], rfl, by omega⟩
     omega
    ·
     obtain ⟨J, j1, j2, j3⟩ := rwE_first hy29
     have hne := hy29
     refine swp_rfJ (x0 := .ret) rfl 104 [.ptr 8 0 0 1] [(4, .ptr 0 0 0 1), (8, .ptr 1 0 0 1), (9, .ptr 2 0 0 1), (10, .ptr 3 0 0 1), (11, .ptr 5 0 0 1), (14, .ptr 7 0 0 1)] [(0, some ⟨.rows 1 [[.ro (.ints .u8 bs)]], true, 22⟩), (1, some ⟨.rows 1 [[.sl 6 0 k k]], true, 56⟩), (2, some ⟨.rows 1 [[.int .i64 (gS bs l ga at_ k).p]], true, 3⟩), (3, some ⟨.rows 1 [[.int .i64 0]], true, 27⟩), (4, some ⟨.rows 2 [[.int .i64 ((gS bs l ga at_ k).a).1, .int .i64 ((gS bs l ga at_ k).a).2]], true, 109⟩), (5, some ⟨.rows 1 [[.ptr 4 0 0 1]], true, 107⟩), (6, some ⟨.rows 1 ((gS bs l ga at_ k).rows.map fun w => [.ro (.ints .i64 w)]), false, 23⟩), (7, some ⟨.rows 1 [[.sl 9 0 0 0]], true, 23⟩), (8, some ⟨.rows 1 [[.ro (.rows 2 ((l[k]?.getD []).map Sc.row))]], true, 61⟩), (9, some ⟨.ints .i64 [], false, 3⟩)] 11 (.tup []) [(1, some ⟨.rows 1 [[.nil (.rows 1 [])]], true, 56⟩), (2, some ⟨.rows 1 [[.int .i64 0]], true, 3⟩), (3, some ⟨.rows 1 [[.int .i64 (rwE bs (bkR (l[k]?.getD [])) (gS bs l ga at_ k).p (gS bs l ga at_ k).a (bkR (l[k]?.getD [])).length)]], true, 27⟩), (4, some ⟨.rows 2 [[.int .i64 ((rwS bs (bkR (l[k]?.getD [])) (gS bs l ga at_ k).p (gS bs l ga at_ k).a J).a).1, .int .i64 ((rwS bs (bkR (l[k]?.getD [])) (gS bs l ga at_ k).p (gS bs l ga at_ k).a J).a).2]], true, 109⟩), (7, some ⟨.rows 1 [[.sl 9 0 J J]], true, 23⟩), (9, some ⟨.ints .i64 (rwS bs (bkR (l[k]?.getD [])) (gS bs l ga at_ k).p (gS bs l ga at_ k).a J).vs, false, 3⟩)] (by simp [getT]) (by simp [getT]) (by intro q; by_cases e0 : 0 = q; (subst e0; simp [getH, s_at]); by_cases e1 : 1 = q; (subst e1; simp [getH, s_at]); by_cases e2 : 2 = q; (subst e2; simp [getH, s_at]); by_cases e3 : 3 = q; (subst e3; simp [getH, s_at]); by_cases e4 : 4 = q; (subst e4; simp [getH, s_at]); by_cases e5 : 5 = q; (subst e5; simp [getH, s_at]); by_cases e6 : 6 = q; (subst e6; simp [getH, s_at]); by_cases e7 : 7 = q; (subst e7; simp [getH, s_at]); by_cases e8 : 8 = q; (subst e8; simp [getH, s_at]); by_cases e9 : 9 = q; (subst e9; simp [getH, s_at]); simp [getH, e0, e1, e2, e3, e4, e5, e6, e7, e8, e9]) (by simp) (by simp) (fun L h1 h2 h3 h4 h5 h6 => (by have h := get_bn L h1 h2 h3 (h4.trans rfl) (h5.trans rfl) h6 bs hm hp k (gS bs l ga at_ k).rows (gS_len bs l ga at_ k) (gS bs l ga at_ k).p hgp (gS bs l ga at_ k).a hgA (l[k]?.getD []) hR4 hR3 hR1 J j1 j2 _ j3 hne; first | exact h | simpa using h)) ?_
     simp only [onL, nxt]
     try simp only [thn, inBlk]
     simp [fnPost, Try.results36, resP, tupOf]
     have hgk1 : gE bs l ga at_ (k + 1) = rwE bs (bkR (l[k]?.getD [])) (gS bs l ga at_ k).p (gS bs l ga at_ k).a (bkR (l[k]?.getD [])).length := by rw [gE, if_pos (by assumption), hRe]
     have hgl : gE bs l ga at_ l.length = rwE bs (bkR (l[k]?.getD [])) (gS bs l ga at_ k).p (gS bs l ga at_ k).a (bkR (l[k]?.getD [])).length := by rw [gE_stop (k := k + 1) (by rw [hgk1]; exact hne) (by omega), hgk1]
     rw [sgR_3 hmg he0 (by rw [hgl]; exact hne), hgl]
     exact ⟨rfl, rfl, rfl⟩
   ·clear hC22
    try simp at hc22
    refine swp_exit ?_
    simp [thn, inBlk]
    refine hK17 _ ?_; clear hK17
    refine swp_seq fun K32 hK32 => ?_
    refine swp_draw ty_ok mixed (ms := [0, 0, 1, 7, 15]) (by kernel_rfl) ?_
    try simp (maxSteps := 1000000)
    repeat' (first | apply And.intro | intro _)
    any_goals (first | kernel_rfl | (refine hK32 _ ?_; clear hK32) | omega | (simp_all <;> omega))
    refine swp_ret ?_
    simp [fnPost, Try.results36, resP, tupOf]
    have hke : k = l.length := (by omega)
    subst hke
    rw [sgR_4 hmg he0 (by assumption)]
    exact ⟨gS_len _ _ _ _ _, rfl, rfl, rfl⟩

end Go.Proofs.Ytgheplondkoedaa

