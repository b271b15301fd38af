import Derived.Test.YtgheplondkoedaaWf
import Derived.Test.YtgheplondkoedaaTyh
import Derived.Test.YtgheplondkoedaaBkq
import Derived.Test.YtgheplondkoedaaHsrt
import Derived.Test.YtgheplondkoedaaHbk
import Derived.Test.YtgheplondkoedaaHbk2
import Derived.Test.YtgheplondkoedaaHbk3
import Derived.Test.YtgheplondkoedaaHbits
import Derived.Test.YtgheplondkoedaaHrd
import Derived.Test.YtgheplondkoedaaHrdq
import Derived.Test.YtgheplondkoedaaHbits2
import Derived.Test.YtgheplondkoedaaHbk4
import Derived.Test.YtgheplondkoedaaHbk5
namespace Go.Proofs.Ytgheplondkoedaa
set_option linter.unusedVariables false
set_option linter.unusedSimpArgs false
set_option maxRecDepth 10000
open Go Go.Pv

open Go.RowKit
theorem twoN_eq (p : Nat) : ((twoN p : Nat) : Int) = (2 : Int) ^ p := by unfold twoN; push_cast; rfl

attribute [local simp] runs gd step1 need evu un opnds opv ev cst cst1 cstL getT getH putT onL nxt argT cellsOf PV.one thn inBlk jmp fldP ldP ldC live Cells.len Cells.get Cells.w sug ldv bin eqF eq1 ops2 sh2 binv Tk.agg stC apC rdS apS cpC cpS mvL zp argsP idx fillP toInts chunks mkC ixS ixA oidx slP sl0 slA optL List.append mxF bltn frzA frz frzL frz1 pur1 Cells.pur PV.scal scal1 runD rdO PV.ids id1 zids ety Eff.on cnd minb and1b ifmax ifmin mxv sugI strv w0 w1 w2 wm1
theorem rent_ok (i : Nat) (h1 : 1 ≤ i) (h2 : i ≤ 12) (vs : List Int) : PCall Try.prog 96 [.int .i64 (i : Nat), .ro (.ints .i64 vs)] (.tup [.int .i64 (entV i vs), .int .i64 (entE i vs)]) := by
 have hB := bk_ok h1 h2
 have hdim := hB.dim
 have hlow := hB.low
 have hhigh := hB.high
 have hwide := hB.wide
 have hmany := hB.many
 have hplain := hB.plain
 have hs : IntKind.i64.wrap (bHigh i - bLow i) = bHigh i - bLow i := w64 (by omega)
 have hs2 : IntKind.i64.wrap (bHigh i - bLow i + 1) = (bWide i : Nat) := by rw [w64 (by omega)]; omega
 refine pcall_body ty_ok Try.func96 rfl (by rfl) (by simp) ?_
 rw [Try.ntmps96]
 refine swp_seq fun K1 hK1 => ?_
 refine swp_region ty_ok ?_
 try simp (maxSteps := 1000000)
 repeat' (first | apply And.intro | intro _)
 any_goals (first | (refine hK1 _ ?_; clear hK1) | (first | omega | (simp only [IntKind.wrap_i64] at *; omega) | (simp_all; done) | (simp_all; omega)))
 refine swp_seq fun K2 hK2 => ?_
 refine swp_seq fun K3 hK3 => ?_
 refine swp_region ty_ok ?_
 try simp (maxSteps := 1000000)
 repeat' (first | apply And.intro | intro _)
 any_goals (first | (refine hK3 _ ?_; clear hK3) | (first | omega | (simp only [IntKind.wrap_i64] at *; omega) | (simp_all; done) | (simp_all; omega)))
 refine swp_if fun C4 hC4 => ?_
 try simp (maxSteps := 1000000)
 refine hC4 _ (fun hc4 => ?_) (fun hc4 => ?_)
 ·exfalso
  have h := hc4
  simp at h
  omega
 ·clear hC4
  try simp at hc4
  refine swp_skip ?_
  try simp only [thn, inBlk]
  refine hK2 _ ?_; clear hK2
  refine swp_seq fun K5 hK5 => ?_
  refine swp_seq fun K6 hK6 => ?_
  refine swp_region ty_ok ?_
  refine runs_cut 3 fun R7 hR7 => ?_
  try simp (maxSteps := 1000000) [List.take_succ_cons, List.take_zero, List.drop_succ_cons, List.drop_zero]
  repeat' (first | apply And.intro | intro _)
  any_goals (first | (refine hR7 _ ?_; clear hR7) | (first | omega | (simp only [IntKind.wrap_i64] at *; omega) | (simp_all; done) | (simp_all; omega)))
  refine runs_cut 1 fun R8 hR8 => ?_
  try simp (maxSteps := 1000000) [List.take_succ_cons, List.take_zero, List.drop_succ_cons, List.drop_zero]
  refine .inl ⟨_, dim_ok i h1 h2, ?_⟩
  try simp (maxSteps := 1000000)
  repeat' (first | apply And.intro | intro _)
  any_goals (first | (refine hR8 _ ?_; clear hR8) | (first | omega | (simp only [IntKind.wrap_i64] at *; omega) | (simp_all; done) | (simp_all; omega)))
  try simp (maxSteps := 1000000) [List.take_succ_cons, List.take_zero, List.drop_succ_cons, List.drop_zero]
  repeat' (first | apply And.intro | intro _)
  any_goals (first | (refine hK6 _ ?_; clear hK6) | (first | omega | (simp only [IntKind.wrap_i64] at *; omega) | (simp_all; done) | (simp_all; omega)))
  refine swp_if fun C9 hC9 => ?_
  try simp (maxSteps := 1000000)
  refine hC9 _ (fun hc9 => ?_) (fun hc9 => ?_)
  ·clear hC9
   try simp at hc9
   refine swp_seq fun K10 hK10 => ?_
   refine swp_region ty_ok ?_
   try simp (maxSteps := 1000000)
   repeat' (first | apply And.intro | intro _)
   any_goals (first | (refine hK10 _ ?_; clear hK10) | (first | omega | (simp only [IntKind.wrap_i64] at *; omega) | (simp_all; done) | (simp_all; omega)))
   refine swp_ret ?_
   simp [fnPost, Try.results96, resP, tupOf]
   obtain ⟨h1, h2⟩ := entE_many (i := i) (vs := vs) (by have h := hc9; omega)
   exact ⟨h2, h1⟩
  ·clear hC9
   try simp at hc9
   refine swp_skip ?_
   try simp only [thn, inBlk]
   refine hK5 _ ?_; clear hK5
   refine swp_seq fun K11 hK11 => ?_
   refine swp_region ty_ok ?_
   try simp (maxSteps := 1000000)
   repeat' (first | apply And.intro | intro _)
   any_goals (first | (refine hK11 _ ?_; clear hK11) | (first | omega | (simp only [IntKind.wrap_i64] at *; omega) | (simp_all; done) | (simp_all; omega)))
   refine swp_seq fun K12 hK12 => ?_
   refine swp_seq fun K13 hK13 => ?_
   refine swp_region ty_ok ?_
   try simp (maxSteps := 1000000)
   repeat' (first | apply And.intro | intro _)
   any_goals (first | (refine hK13 _ ?_; clear hK13) | (first | omega | (simp only [IntKind.wrap_i64] at *; omega) | (simp_all; done) | (simp_all; omega)))
   refine swp_block ?_
   have hlen : vs.length = bDim i := (by have h := hc9; omega)
   refine swp_loop 0 (fun m_ s_ => ∃ (j : Nat), (j ≤ vs.length) ∧ (∀ v ∈ vs.take j, inR i v = true) ∧ s_ = ⟨[(0, .int .i64 (i : Nat)), (1, .ro (.ints .i64 vs)), (6, .int .i64 (entN i (vs.take j) : Nat)), (7, .int .i64 (j : Nat))], [], 0⟩ ∧ m_ = vs.length - j) _ ⟨[(0, .int .i64 (i : Nat)), (1, .ro (.ints .i64 vs)), (6, .int .i64 (entN i (vs.take 0) : Nat)), (7, .int .i64 (0 : Nat))], [], 0⟩ ⟨by simp [getT, PV.lo, lo1, entN], by simp [getH, Blk.lo, Cells.lo, lo1], rfl, by omega⟩ ⟨(0), by omega, by simp, rfl, rfl⟩ ?_
   rintro m_ s_ ⟨j, hL14_0, hL14_1, rfl, rfl⟩ KL14 hL14
   have hjw := wnext (i := j) (by omega)
   have hall := (by assumption : ∀ v ∈ vs.take j, inR i v = true)
   refine swp_seq fun K15 hK15 => ?_
   refine swp_seq fun K16 hK16 => ?_
   refine swp_region ty_ok ?_
   try simp (maxSteps := 1000000)
   repeat' (first | apply And.intro | intro _)
   any_goals (first | (refine hK16 _ ?_; clear hK16) | (first | omega | (simp only [IntKind.wrap_i64] at *; omega) | (simp_all; done) | (simp_all; omega)))
   refine swp_if fun C17 hC17 => ?_
   try simp (maxSteps := 1000000)
   refine hC17 _ (fun hc17 => ?_) (fun hc17 => ?_)
   ·clear hC17
    try simp at hc17
    refine swp_skip ?_
    try simp only [thn, inBlk]
    refine hK15 _ ?_; clear hK15
    refine swp_seq fun K18 hK18 => ?_
    refine swp_block ?_
    refine swp_seq fun K19 hK19 => ?_
    refine swp_seq fun K20 hK20 => ?_
    refine swp_draw ty_ok mixed (ms := [0, 0, 3, 7, 0, 16, 63, 127, 255, 255, 1023, 2047, 255, 4351, 16383, 32767]) (by kernel_rfl) ?_
    refine runD_cut 5 fun R21 hR21 => ?_
    try simp (maxSteps := 1000000) [List.take_succ_cons, List.take_zero, List.drop_succ_cons, List.drop_zero]
    repeat' (first | apply And.intro | intro _)
    any_goals (first | (refine hR21 _ _ _ _ ?_; clear hR21) | (first | omega | (simp only [IntKind.wrap_i64] at *; omega) | (simp_all; done) | (simp_all; omega)))
    refine runD_cut 1 fun R22 hR22 => ?_
    try simp (maxSteps := 1000000) [List.take_succ_cons, List.take_zero, List.drop_succ_cons, List.drop_zero]
    refine .inl ⟨_, low_ok i h1 h2, ?_⟩
    try simp (maxSteps := 1000000)
    repeat' (first | apply And.intro | intro _)
    any_goals (first | (refine hR22 _ _ _ _ ?_; clear hR22) | (first | omega | (simp only [IntKind.wrap_i64] at *; omega) | (simp_all; done) | (simp_all; omega)))
    refine runD_cut 7 fun R23 hR23 => ?_
    try simp (maxSteps := 1000000) [List.take_succ_cons, List.take_zero, List.drop_succ_cons, List.drop_zero]
    repeat' (first | apply And.intro | intro _)
    any_goals (first | (refine hR23 _ _ _ _ ?_; clear hR23) | (first | omega | (simp only [IntKind.wrap_i64] at *; omega) | (simp_all; done) | (simp_all; omega)))
    refine runD_cut 1 fun R24 hR24 => ?_
    try simp (maxSteps := 1000000) [List.take_succ_cons, List.take_zero, List.drop_succ_cons, List.drop_zero]
    first | refine ⟨_, fun hb => .inl ⟨high_ok i h1 h2, rfl⟩, ?_⟩ | refine ⟨_, .inl ⟨high_ok i h1 h2, rfl⟩, ?_⟩ | refine ⟨_, fun hb => .inl (high_ok i h1 h2), ?_⟩ | refine ⟨_, .inl (high_ok i h1 h2), ?_⟩ | refine ⟨_, by (intros; exact Or.inl (high_ok i h1 h2)), ?_⟩ | refine ⟨_, by (intros; exact Or.inl ⟨high_ok i h1 h2, rfl⟩), ?_⟩ | refine ⟨_, fun hb => .inl ⟨_, high_ok i h1 h2, by (try simp); exact ⟨rfl, rfl⟩⟩, ?_⟩
    repeat' (first | apply And.intro | intro _)
    any_goals (first | (refine hR24 _ _ _ _ ?_; clear hR24) | (first | omega | (simp only [IntKind.wrap_i64] at *; omega) | (simp_all; done) | (simp_all; omega)))
    try simp (maxSteps := 1000000) [List.take_succ_cons, List.take_zero, List.drop_succ_cons, List.drop_zero]
    repeat' (first | apply And.intro | intro _)
    any_goals (first | kernel_rfl | (refine hK20 _ ?_; clear hK20) | (first | omega | (simp only [IntKind.wrap_i64] at *; omega) | (simp_all; done) | (simp_all; omega)))
    refine swp_if fun C26 hC26 => ?_
    try simp (maxSteps := 1000000)
    refine hC26 _ (fun hc26 => ?_) (fun hc26 => ?_)
    ·clear hC26
     try simp at hc26
     refine swp_seq fun K27 hK27 => ?_
     refine swp_region ty_ok ?_
     try simp (maxSteps := 1000000)
     repeat' (first | apply And.intro | intro _)
     any_goals (first | (refine hK27 _ ?_; clear hK27) | (first | omega | (simp only [IntKind.wrap_i64] at *; omega) | (simp_all; done) | (simp_all; omega)))
     refine swp_ret ?_
     simp [fnPost, Try.results96, resP, tupOf]
     obtain ⟨h1, h2⟩ := entE_arg (i := i) (vs := vs) hlen (j := j) (by omega) (by have h := hc26; simp [inR]; omega)
     exact ⟨h2, h1⟩
    ·clear hC26
     try simp at hc26
     refine swp_skip ?_
     try simp only [thn, inBlk]
     refine hK19 _ ?_; clear hK19
     have hj : j < vs.length := (by omega)
     have hin : inR i (vs[j]?.getD 0) = true := (by have h := hc26; simp [inR]; omega)
     have hbd0 := entN_bd hB _ (inR_snoc hj hall hin)
     have hpw := bPow_le hB (j := (vs.take (j + 1)).length) (by simp; omega)
     unfold bPow at hpw
     have hsn := entN_take (i := i) hj
     obtain ⟨v, hv⟩ : ∃ v, vs[j]?.getD 0 = v := ⟨_, rfl⟩
     have hin2 := hin
     rw [hv] at hin2 hsn
     simp only [inR, decide_eq_true_eq] at hin2
     obtain ⟨w, hw⟩ : ∃ w : Nat, (w : Int) = v - bLow i := ⟨(v - bLow i).toNat, by omega⟩
     have hw2 : (v - bLow i).toNat = w := (by omega)
     rw [hw2] at hsn
     obtain ⟨q, hq⟩ : ∃ q, entN i (vs.take j) * bWide i = q := ⟨_, rfl⟩
     rw [hq] at hsn
     have hmul : IntKind.i64.wrap ((entN i (vs.take j) : Nat) * (bWide i : Nat) : Int) = (q : Nat) := by rw [w64 (by rw [← Int.natCast_mul, hq]; omega), ← Int.natCast_mul, hq]
     have hadd : IntKind.i64.wrap ((q : Nat) + vs[j]?.getD 0 : Int) = (q : Nat) + v := by rw [hv, w64 (by omega)]
     have hsub : IntKind.i64.wrap ((q : Nat) + v - bLow i : Int) = (entN i (vs.take (j + 1)) : Nat) := by rw [w64 (by omega), hsn]; omega
     refine swp_draw ty_ok mixed (ms := [0, 0, 2, 0, 14, 30, 62, 127, 0, 0, 768, 1792, 4095, 0, 8222, 32767, 65535]) (by kernel_rfl) ?_
     refine runD_cut 2 fun R28 hR28 => ?_
     try simp (maxSteps := 1000000) [hs, hs2, hmul, hadd, hsub, List.take_succ_cons, List.take_zero, List.drop_succ_cons, List.drop_zero]
     repeat' (first | apply And.intro | intro _)
     any_goals (first | (refine hR28 _ _ _ _ ?_; clear hR28) | (first | omega | (simp only [IntKind.wrap_i64] at *; omega) | (simp_all; done) | (simp_all; omega)))
     refine runD_cut 1 fun R29 hR29 => ?_
     try simp (maxSteps := 1000000) [hs, hs2, hmul, hadd, hsub, List.take_succ_cons, List.take_zero, List.drop_succ_cons, List.drop_zero]
     refine .inl ⟨_, high_ok i h1 h2, ?_⟩
     try simp (maxSteps := 1000000) [hs, hs2, hmul, hadd, hsub]
     repeat' (first | apply And.intro | intro _)
     any_goals (first | (refine hR29 _ _ _ _ ?_; clear hR29) | (first | omega | (simp only [IntKind.wrap_i64] at *; omega) | (simp_all; done) | (simp_all; omega)))
     refine runD_cut 1 fun R30 hR30 => ?_
     try simp (maxSteps := 1000000) [hs, hs2, hmul, hadd, hsub, List.take_succ_cons, List.take_zero, List.drop_succ_cons, List.drop_zero]
     repeat' (first | apply And.intro | intro _)
     any_goals (first | (refine hR30 _ _ _ _ ?_; clear hR30) | (first | omega | (simp only [IntKind.wrap_i64] at *; omega) | (simp_all; done) | (simp_all; omega)))
     refine runD_cut 1 fun R31 hR31 => ?_
     try simp (maxSteps := 1000000) [hs, hs2, hmul, hadd, hsub, List.take_succ_cons, List.take_zero, List.drop_succ_cons, List.drop_zero]
     refine .inl ⟨_, low_ok i h1 h2, ?_⟩
     try simp (maxSteps := 1000000) [hs, hs2, hmul, hadd, hsub]
     repeat' (first | apply And.intro | intro _)
     any_goals (first | (refine hR31 _ _ _ _ ?_; clear hR31) | (first | omega | (simp only [IntKind.wrap_i64] at *; omega) | (simp_all; done) | (simp_all; omega)))
     refine runD_cut 9 fun R32 hR32 => ?_
     try simp (maxSteps := 1000000) [hs, hs2, hmul, hadd, hsub, List.take_succ_cons, List.take_zero, List.drop_succ_cons, List.drop_zero]
     repeat' (first | apply And.intro | intro _)
     any_goals (first | (refine hR32 _ _ _ _ ?_; clear hR32) | (first | omega | (simp only [IntKind.wrap_i64] at *; omega) | (simp_all; done) | (simp_all; omega)))
     refine runD_cut 1 fun R33 hR33 => ?_
     try simp (maxSteps := 1000000) [hs, hs2, hmul, hadd, hsub, List.take_succ_cons, List.take_zero, List.drop_succ_cons, List.drop_zero]
     refine .inl ⟨_, low_ok i h1 h2, ?_⟩
     try simp (maxSteps := 1000000) [hs, hs2, hmul, hadd, hsub]
     repeat' (first | apply And.intro | intro _)
     any_goals (first | (refine hR33 _ _ _ _ ?_; clear hR33) | (first | omega | (simp only [IntKind.wrap_i64] at *; omega) | (simp_all; done) | (simp_all; omega)))
     try simp (maxSteps := 1000000) [hs, hs2, hmul, hadd, hsub, List.take_succ_cons, List.take_zero, List.drop_succ_cons, List.drop_zero]
     repeat' (first | apply And.intro | intro _)
     any_goals (first | kernel_rfl | (refine hK18 _ ?_; clear hK18) | (first | omega | (simp only [IntKind.wrap_i64] at *; omega) | (simp_all; done) | (simp_all; omega)))
     refine swp_region ty_ok ?_
     try simp (maxSteps := 1000000)
     repeat' apply And.intro
     any_goals (try omega)
     refine hL14 _ ⟨[(0, .int .i64 (i : Nat)), (1, .ro (.ints .i64 vs)), (6, .int .i64 (entN i (vs.take (j + 1)) : Nat)), (7, .int .i64 ((j + 1) : Nat))], [], 0⟩ _ ?_ ⟨(j + 1), by omega, by exact inR_snoc hj hall hin, rfl, rfl⟩ ⟨by simp [getT, PV.lo, lo1, hjw], by simp [getH, Blk.lo, Cells.lo, lo1], rfl, by omega⟩
     omega
   ·clear hC17
    try simp at hc17
    refine swp_exit ?_
    simp [thn, inBlk]
    refine hK12 _ ?_; clear hK12
    refine swp_seq fun K35 hK35 => ?_
    refine swp_region ty_ok ?_
    try simp (maxSteps := 1000000)
    repeat' (first | apply And.intro | intro _)
    any_goals (first | (refine hK35 _ ?_; clear hK35) | (first | omega | (simp only [IntKind.wrap_i64] at *; omega) | (simp_all; done) | (simp_all; omega)))
    refine swp_ret ?_
    simp [fnPost, Try.results96, resP, tupOf]
    have hj : j = vs.length := (by omega)
    subst hj
    rw [List.take_length] at *
    obtain ⟨h1, h2⟩ := entE_fin hlen hall
    exact ⟨h2, h1⟩

theorem rsame8_ok (id p : Int) (es rs : List Int) (id2 p2 : Int) (es2 rs2 : List Int) (he : es.length ≤ 140737488355328) (hr : rs.length ≤ 140737488355328) : PCall Try.prog 115 [.agg [.int .i64 id, .int .i64 p, .ro (.ints .i64 es), .ro (.ints .i64 rs)], .agg [.int .i64 id2, .int .i64 p2, .ro (.ints .i64 es2), .ro (.ints .i64 rs2)]] (.bool (decide (id = id2 ∧ p = p2 ∧ es = es2 ∧ rs = rs2))) := by
 refine pcall_body ty_ok Try.func115 rfl (by rfl) (by simp) ?_
 rw [Try.ntmps115]
 refine swp_seq fun K1 hK1 => ?_
 refine swp_region ty_ok ?_
 try simp (maxSteps := 1000000)
 repeat' (first | apply And.intro | intro _)
 any_goals (first | (refine hK1 _ ?_; clear hK1) | (first | omega | (simp only [IntKind.wrap_i64] at *; omega) | (simp_all; done) | (simp_all; omega)))
 refine swp_seq fun K2 hK2 => ?_
 refine swp_region ty_ok ?_
 refine runs_cut 8 fun R3 hR3 => ?_
 try simp (maxSteps := 1000000) [List.take_succ_cons, List.take_zero, List.drop_succ_cons, List.drop_zero]
 repeat' (first | apply And.intro | intro _)
 any_goals (first | (refine hR3 _ ?_; clear hR3) | (first | omega | (simp only [IntKind.wrap_i64] at *; omega) | (simp_all; done) | (simp_all; omega)))
 refine runs_cut 9 fun R4 hR4 => ?_
 try simp (maxSteps := 1000000) [List.take_succ_cons, List.take_zero, List.drop_succ_cons, List.drop_zero]
 repeat' (first | apply And.intro | intro _)
 any_goals (first | (refine hR4 _ ?_; clear hR4) | (first | omega | (simp only [IntKind.wrap_i64] at *; omega) | (simp_all; done) | (simp_all; omega)))
 refine runs_cut 1 fun R5 hR5 => ?_
 try simp (maxSteps := 1000000) [List.take_succ_cons, List.take_zero, List.drop_succ_cons, List.drop_zero]
 first | refine .inl ⟨_, fun hb => .inl ⟨reedpiperef06_Ints_ok es es2 he, rfl⟩, ?_⟩ | refine .inl ⟨_, .inl ⟨reedpiperef06_Ints_ok es es2 he, rfl⟩, ?_⟩ | refine .inl ⟨_, fun hb => .inl (reedpiperef06_Ints_ok es es2 he), ?_⟩ | refine .inl ⟨_, .inl (reedpiperef06_Ints_ok es es2 he), ?_⟩ | refine .inl ⟨_, by (intros; exact Or.inl (reedpiperef06_Ints_ok es es2 he)), ?_⟩ | refine .inl ⟨_, by (intros; exact Or.inl ⟨reedpiperef06_Ints_ok es es2 he, rfl⟩), ?_⟩ | refine .inl ⟨_, fun hb => .inl ⟨_, reedpiperef06_Ints_ok es es2 he, by (try simp); exact ⟨rfl, rfl⟩⟩, ?_⟩
 repeat' (first | apply And.intro | intro _)
 any_goals (first | (refine hR5 _ ?_; clear hR5) | (first | omega | (simp only [IntKind.wrap_i64] at *; omega) | (simp_all; done) | (simp_all; omega)))
 refine runs_cut 6 fun R6 hR6 => ?_
 try simp (maxSteps := 1000000) [List.take_succ_cons, List.take_zero, List.drop_succ_cons, List.drop_zero]
 repeat' (first | apply And.intro | intro _)
 any_goals (first | (refine hR6 _ ?_; clear hR6) | (first | omega | (simp only [IntKind.wrap_i64] at *; omega) | (simp_all; done) | (simp_all; omega)))
 refine runs_cut 1 fun R7 hR7 => ?_
 try simp (maxSteps := 1000000) [List.take_succ_cons, List.take_zero, List.drop_succ_cons, List.drop_zero]
 first | refine .inl ⟨_, fun hb => .inl ⟨reedpiperef06_Ints_ok rs rs2 hr, rfl⟩, ?_⟩ | refine .inl ⟨_, .inl ⟨reedpiperef06_Ints_ok rs rs2 hr, rfl⟩, ?_⟩ | refine .inl ⟨_, fun hb => .inl (reedpiperef06_Ints_ok rs rs2 hr), ?_⟩ | refine .inl ⟨_, .inl (reedpiperef06_Ints_ok rs rs2 hr), ?_⟩ | refine .inl ⟨_, by (intros; exact Or.inl (reedpiperef06_Ints_ok rs rs2 hr)), ?_⟩ | refine .inl ⟨_, by (intros; exact Or.inl ⟨reedpiperef06_Ints_ok rs rs2 hr, rfl⟩), ?_⟩ | refine .inl ⟨_, fun hb => .inl ⟨_, reedpiperef06_Ints_ok rs rs2 hr, by (try simp); exact ⟨rfl, rfl⟩⟩, ?_⟩
 repeat' (first | apply And.intro | intro _)
 any_goals (first | (refine hR7 _ ?_; clear hR7) | (first | omega | (simp only [IntKind.wrap_i64] at *; omega) | (simp_all; done) | (simp_all; omega)))
 try simp (maxSteps := 1000000) [List.take_succ_cons, List.take_zero, List.drop_succ_cons, List.drop_zero]
 repeat' (first | apply And.intro | intro _)
 any_goals (first | (refine hK2 _ ?_; clear hK2) | (first | omega | (simp only [IntKind.wrap_i64] at *; omega) | (simp_all; done) | (simp_all; omega)))
 refine swp_ret ?_
 simp [fnPost, Try.results115, resP, tupOf]
 simp only [Bool.and_assoc]

theorem great_ok (id p : Int) (es rs : List Int) : PCall Try.prog 14 [.agg [.int .i64 id, .int .i64 p, .ro (.ints .i64 es), .ro (.ints .i64 rs)]] (.bool (decide (2000 < es.length ∨ 2000 < rs.length))) := by
 refine pcall_body ty_ok Try.func14 rfl (by rfl) (by simp) ?_
 rw [Try.ntmps14]
 refine swp_seq fun K1 hK1 => ?_
 refine swp_region ty_ok ?_
 try simp (maxSteps := 1000000)
 repeat' (first | apply And.intro | intro _)
 any_goals (first | (refine hK1 _ ?_; clear hK1) | (first | omega | (simp only [IntKind.wrap_i64] at *; omega) | (simp_all; done) | (simp_all; omega)))
 refine swp_seq fun K2 hK2 => ?_
 refine swp_region ty_ok ?_
 try simp (maxSteps := 1000000)
 repeat' (first | apply And.intro | intro _)
 any_goals (first | (refine hK2 _ ?_; clear hK2) | (first | omega | (simp only [IntKind.wrap_i64] at *; omega) | (simp_all; done) | (simp_all; omega)))
 refine swp_ret ?_
 simp [fnPost, Try.results14, resP, tupOf]
 simp only [show ∀ n : Nat, (2000 < (n : Int)) = (2000 < n) from fun n => propext (by omega)]

theorem digits_w (n : Nat) (h1 : 1 ≤ n) (h2 : n ≤ 65535) (ih : 2 ≤ n → PCall Try.prog 119 [.int .i64 (n / 2 : Nat)] (.int .i64 (Lib.bitLen (n / 2) : Nat))) : PCall Try.prog 119 [.int .i64 (n : Nat)] (.int .i64 (Lib.bitLen n : Nat)) := by
 have hbh := Lib.bitLen_half n (by omega) (by omega)
 have hbl := Lib.bitLen_le n 16 (by omega) (by omega)
 obtain ⟨q, hq⟩ : ∃ q, n / 2 = q := ⟨_, rfl⟩
 rw [hq] at ih hbh
 have hwd : IntKind.i64.wrap ((n : Int) / 2) = (q : Nat) := by rw [w64 (by omega)]; omega
 have hwq : IntKind.i64.wrap (1 + ((Lib.bitLen q : Nat) : Int)) = (Lib.bitLen n : Nat) := by rw [w64 (by omega)]; omega
 refine pcall_body ty_ok Try.func119 rfl (by rfl) (by simp) ?_
 rw [Try.ntmps119]
 refine swp_seq fun K1 hK1 => ?_
 refine swp_region ty_ok ?_
 try simp (maxSteps := 1000000)
 repeat' (first | apply And.intro | intro _)
 any_goals (first | (refine hK1 _ ?_; clear hK1) | (first | omega | (simp only [IntKind.wrap_i64] at *; omega) | (simp_all; done) | (simp_all; omega)))
 refine swp_seq fun K2 hK2 => ?_
 refine swp_seq fun K3 hK3 => ?_
 refine swp_region ty_ok ?_
 try simp (maxSteps := 1000000)
 repeat' (first | apply And.intro | intro _)
 any_goals (first | (refine hK3 _ ?_; clear hK3) | (first | omega | (simp only [IntKind.wrap_i64] at *; omega) | (simp_all; done) | (simp_all; omega)))
 refine swp_if fun C4 hC4 => ?_
 try simp (maxSteps := 1000000)
 refine hC4 _ (fun hc4 => ?_) (fun hc4 => ?_)
 ·clear hC4
  try simp at hc4
  refine swp_seq fun K5 hK5 => ?_
  refine swp_region ty_ok ?_
  try simp (maxSteps := 1000000)
  repeat' (first | apply And.intro | intro _)
  any_goals (first | (refine hK5 _ ?_; clear hK5) | (first | omega | (simp only [IntKind.wrap_i64] at *; omega) | (simp_all; done) | (simp_all; omega)))
  refine swp_ret ?_
  simp [fnPost, Try.results119, resP, tupOf]
  have : n = 1 := (by omega)
  subst this
  rfl
 ·clear hC4
  try simp at hc4
  refine swp_skip ?_
  try simp only [thn, inBlk]
  refine hK2 _ ?_; clear hK2
  refine swp_seq fun K6 hK6 => ?_
  refine swp_region ty_ok ?_
  refine runs_cut 2 fun R7 hR7 => ?_
  try simp (maxSteps := 1000000) [hwd, hwq, List.take_succ_cons, List.take_zero, List.drop_succ_cons, List.drop_zero]
  repeat' (first | apply And.intro | intro _)
  any_goals (first | (refine hR7 _ ?_; clear hR7) | (first | omega | (simp only [IntKind.wrap_i64] at *; omega) | (simp_all; done) | (simp_all; omega)))
  refine runs_cut 1 fun R8 hR8 => ?_
  try simp (maxSteps := 1000000) [hwd, hwq, List.take_succ_cons, List.take_zero, List.drop_succ_cons, List.drop_zero]
  refine .inl ⟨_, ih (by omega), ?_⟩
  try simp (maxSteps := 1000000) [hwd, hwq]
  repeat' (first | apply And.intro | intro _)
  any_goals (first | (refine hR8 _ ?_; clear hR8) | (first | omega | (simp only [IntKind.wrap_i64] at *; omega) | (simp_all; done) | (simp_all; omega)))
  try simp (maxSteps := 1000000) [hwd, hwq, List.take_succ_cons, List.take_zero, List.drop_succ_cons, List.drop_zero]
  repeat' (first | apply And.intro | intro _)
  any_goals (first | (refine hK6 _ ?_; clear hK6) | (first | omega | (simp only [IntKind.wrap_i64] at *; omega) | (simp_all; done) | (simp_all; omega)))
  refine swp_ret ?_
  simp [fnPost, Try.results119, resP, tupOf]

theorem digits_ok : ∀ (n : Nat), 1 ≤ n → n ≤ 65535 → PCall Try.prog 119 [.int .i64 (n : Nat)] (.int .i64 (Lib.bitLen n : Nat)) := by
 intro n
 induction n using Nat.strongRecOn with
 | ind n ih => exact fun h1 h2 => digits_w n h1 h2 fun h => ih (n / 2) (by omega) (by omega) (by omega)

theorem rmay_in (i : Nat) (h1 : 1 ≤ i) (h2 : i ≤ 12) (p : Int) (es rs : List Int) (he : es.length ≤ 140737488355328) (hr : rs.length ≤ 140737488355328) : PCall Try.prog 91 [.agg [.int .i64 (i : Nat), .int .i64 p, .ro (.ints .i64 es), .ro (.ints .i64 rs)]] (.bool (rightI i p es rs)) := by
 have k1 : (1 : Int) ≤ i := (by omega)
 have k2 : (i : Int) ≤ 12 := (by omega)
 have k3 : (1 : Nat) ≤ i := (by omega)
 refine pcall_body ty_ok Try.func91 rfl (by rfl) (by simp) ?_
 rw [Try.ntmps91]
 refine swp_seq fun K1 hK1 => ?_
 refine swp_region ty_ok ?_
 try simp (maxSteps := 1000000) [k1, k2, k3, h2, bookV]
 repeat' (first | apply And.intro | intro _)
 any_goals (first | (refine hK1 _ ?_; clear hK1) | (first | omega | (simp only [IntKind.wrap_i64] at *; omega) | (simp_all; done) | (simp_all; omega)))
 refine swp_seq fun K2 hK2 => ?_
 refine swp_draw ty_ok mixed (ms := [0, 1, 3, 7, 15, 31, 63, 127, 255, 511, 511, 1535, 3583, 8191, 16383, 32767]) (by kernel_rfl) ?_
 refine runD_cut 12 fun R3 hR3 => ?_
 try simp (maxSteps := 1000000) [k1, k2, k3, h2, bookV, List.take_succ_cons, List.take_zero, List.drop_succ_cons, List.drop_zero]
 repeat' (first | apply And.intro | intro _)
 any_goals (first | (refine hR3 _ _ _ _ ?_; clear hR3) | (first | omega | (simp only [IntKind.wrap_i64] at *; omega) | (simp_all; done) | (simp_all; omega)))
 refine runD_cut 1 fun R4 hR4 => ?_
 try simp (maxSteps := 1000000) [k1, k2, k3, h2, bookV, List.take_succ_cons, List.take_zero, List.drop_succ_cons, List.drop_zero]
 first | refine ⟨_, fun hb => .inl ⟨rbook_ok i h1 h2, rfl⟩, ?_⟩ | refine ⟨_, .inl ⟨rbook_ok i h1 h2, rfl⟩, ?_⟩ | refine ⟨_, fun hb => .inl (rbook_ok i h1 h2), ?_⟩ | refine ⟨_, .inl (rbook_ok i h1 h2), ?_⟩ | refine ⟨_, by (intros; exact Or.inl (rbook_ok i h1 h2)), ?_⟩ | refine ⟨_, by (intros; exact Or.inl ⟨rbook_ok i h1 h2, rfl⟩), ?_⟩ | refine ⟨_, fun hb => .inl ⟨_, rbook_ok i h1 h2, by (try simp); exact ⟨rfl, rfl⟩⟩, ?_⟩
 repeat' (first | apply And.intro | intro _)
 any_goals (first | (refine hR4 _ _ _ _ ?_; clear hR4) | (first | omega | (simp only [IntKind.wrap_i64] at *; omega) | (simp_all; done) | (simp_all; omega)))
 refine runD_cut 1 fun R5 hR5 => ?_
 try simp (maxSteps := 1000000) [k1, k2, k3, h2, bookV, List.take_succ_cons, List.take_zero, List.drop_succ_cons, List.drop_zero]
 first | refine ⟨_, fun hb => .inl ⟨rsame8_ok (i : Nat) p es rs (i : Nat) (bPlain i : Nat) (bE i) (bR i) he hr, rfl⟩, ?_⟩ | refine ⟨_, .inl ⟨rsame8_ok (i : Nat) p es rs (i : Nat) (bPlain i : Nat) (bE i) (bR i) he hr, rfl⟩, ?_⟩ | refine ⟨_, fun hb => .inl (rsame8_ok (i : Nat) p es rs (i : Nat) (bPlain i : Nat) (bE i) (bR i) he hr), ?_⟩ | refine ⟨_, .inl (rsame8_ok (i : Nat) p es rs (i : Nat) (bPlain i : Nat) (bE i) (bR i) he hr), ?_⟩ | refine ⟨_, by (intros; exact Or.inl (rsame8_ok (i : Nat) p es rs (i : Nat) (bPlain i : Nat) (bE i) (bR i) he hr)), ?_⟩ | refine ⟨_, by (intros; exact Or.inl ⟨rsame8_ok (i : Nat) p es rs (i : Nat) (bPlain i : Nat) (bE i) (bR i) he hr, rfl⟩), ?_⟩ | refine ⟨_, fun hb => .inl ⟨_, rsame8_ok (i : Nat) p es rs (i : Nat) (bPlain i : Nat) (bE i) (bR i) he hr, by (try simp); exact ⟨rfl, rfl⟩⟩, ?_⟩
 repeat' (first | apply And.intro | intro _)
 any_goals (first | (refine hR5 _ _ _ _ ?_; clear hR5) | (first | omega | (simp only [IntKind.wrap_i64] at *; omega) | (simp_all; done) | (simp_all; omega)))
 try simp (maxSteps := 1000000) [k1, k2, k3, h2, bookV, List.take_succ_cons, List.take_zero, List.drop_succ_cons, List.drop_zero]
 repeat' (first | apply And.intro | intro _)
 any_goals (first | kernel_rfl | (refine hK2 _ ?_; clear hK2) | (first | omega | (simp only [IntKind.wrap_i64] at *; omega) | (simp_all; done) | (simp_all; omega)))
 refine swp_ret ?_
 simp [fnPost, Try.results91, resP, tupOf]
 unfold rightI
 simp

theorem rmay_out (id : Int) (h : id < 1 ∨ 12 < id) (p : Int) (es rs : List Int) : PCall Try.prog 91 [.agg [.int .i64 id, .int .i64 p, .ro (.ints .i64 es), .ro (.ints .i64 rs)]] (.bool false) := by
 refine pcall_body ty_ok Try.func91 rfl (by rfl) (by simp) ?_
 rw [Try.ntmps91]
 refine swp_seq fun K1 hK1 => ?_
 refine swp_region ty_ok ?_
 try simp (maxSteps := 1000000)
 repeat' (first | apply And.intro | intro _)
 any_goals (first | (refine hK1 _ ?_; clear hK1) | (first | omega | (simp only [IntKind.wrap_i64] at *; omega) | (simp_all; done) | (simp_all; omega)))
 refine swp_seq fun K2 hK2 => ?_
 refine swp_draw ty_ok mixed (ms := [0, 1, 3, 7, 15, 31, 63, 127, 255, 511, 511, 1535, 3583, 8191, 16383, 32767]) (by kernel_rfl) ?_
 refine runD_cut 12 fun R3 hR3 => ?_
 try simp (maxSteps := 1000000) [List.take_succ_cons, List.take_zero, List.drop_succ_cons, List.drop_zero]
 repeat' (first | apply And.intro | intro _)
 any_goals (first | (refine hR3 _ _ _ _ ?_; clear hR3) | (first | omega | (simp only [IntKind.wrap_i64] at *; omega) | (simp_all; done) | (simp_all; omega)))
 refine runD_cut 1 fun R4 hR4 => ?_
 try simp (maxSteps := 1000000) [List.take_succ_cons, List.take_zero, List.drop_succ_cons, List.drop_zero]
 refine ⟨.int .i64 0, (by intros; exfalso; omega), ?_⟩
 repeat' (first | apply And.intro | intro _)
 any_goals (first | (refine hR4 _ _ _ _ ?_; clear hR4) | (first | omega | (simp only [IntKind.wrap_i64] at *; omega) | (simp_all; done) | (simp_all; omega)))
 refine runD_cut 1 fun R5 hR5 => ?_
 try simp (maxSteps := 1000000) [List.take_succ_cons, List.take_zero, List.drop_succ_cons, List.drop_zero]
 refine ⟨.bool false, (by intros; exfalso; omega), ?_⟩
 repeat' (first | apply And.intro | intro _)
 any_goals (first | (refine hR5 _ _ _ _ ?_; clear hR5) | (first | omega | (simp only [IntKind.wrap_i64] at *; omega) | (simp_all; done) | (simp_all; omega)))
 try simp (maxSteps := 1000000) [List.take_succ_cons, List.take_zero, List.drop_succ_cons, List.drop_zero]
 repeat' (first | apply And.intro | intro _)
 any_goals (first | kernel_rfl | (refine hK2 _ ?_; clear hK2) | (first | omega | (simp only [IntKind.wrap_i64] at *; omega) | (simp_all; done) | (simp_all; omega)))
 refine swp_ret ?_
 simp [fnPost, Try.results91, resP, tupOf]
 skip

theorem rmay_ok (id p : Int) (es rs : List Int) (he : es.length ≤ 140737488355328) (hr : rs.length ≤ 140737488355328) : PCall Try.prog 91 [.agg [.int .i64 id, .int .i64 p, .ro (.ints .i64 es), .ro (.ints .i64 rs)]] (.bool (rightB id p es rs)) := by
 by_cases h : id < 1 ∨ 12 < id
 ·rw [rightB_no h]
  exact rmay_out id h p es rs
 ·obtain ⟨i, rfl⟩ := Int.eq_ofNat_of_zero_le (show 0 ≤ id by omega)
  rw [rightB_eq (by omega) (by omega)]
  exact rmay_in i (by omega) (by omega) p es rs he hr
theorem rmay_book (i : Nat) (h1 : 1 ≤ i) (h2 : i ≤ 12) : PCall Try.prog 91 [bookV i] (.bool true) := by
 have hE := bke h1 h2
 have hm := (bk_ok h1 h2).many
 have := rmay_ok i (bPlain i) (bE i) (bR i) (by rw [hE.elen]; omega) (by rw [hE.rlen]; omega)
 rwa [show rightB i (bPlain i) (bE i) (bR i) = true from right_iff.2 ⟨i, rfl, h1, h2, rfl, rfl, rfl⟩] at this

theorem read_no (id p : Int) (es rs : List Int) (h : rightB id p es rs = false) (b : List Int) (at_ : Int) : PCall Try.prog 55 [.agg [.int .i64 id, .int .i64 p, .ro (.ints .i64 es), .ro (.ints .i64 rs)], .ro (.ints .u8 b), .int .i64 at_] (.tup [.int .i64 0, .int .i64 0, .int .i64 8]) := by
 refine pcall_body ty_ok Try.func55 rfl (by rfl) (by simp) ?_
 rw [Try.ntmps55]
 refine swp_seq fun K1 hK1 => ?_
 refine swp_region ty_ok ?_
 try simp (maxSteps := 1000000)
 repeat' (first | apply And.intro | intro _)
 any_goals (first | (refine hK1 _ ?_; clear hK1) | (first | omega | (simp only [IntKind.wrap_i64] at *; omega) | (simp_all; done) | (simp_all; omega)))
 refine swp_seq fun K2 hK2 => ?_
 refine swp_seq fun K3 hK3 => ?_
 refine swp_region ty_ok ?_
 refine runs_cut 1 fun R4 hR4 => ?_
 try simp (maxSteps := 1000000) [h, List.take_succ_cons, List.take_zero, List.drop_succ_cons, List.drop_zero]
 repeat' (first | apply And.intro | intro _)
 any_goals (first | (refine hR4 _ ?_; clear hR4) | (first | omega | (simp only [IntKind.wrap_i64] at *; omega) | (simp_all; done) | (simp_all; omega)))
 refine runs_cut 1 fun R5 hR5 => ?_
 try simp (maxSteps := 1000000) [h, List.take_succ_cons, List.take_zero, List.drop_succ_cons, List.drop_zero]
 refine .inl ⟨_, right_ok id p es rs, ?_⟩
 try simp (maxSteps := 1000000) [h]
 repeat' (first | apply And.intro | intro _)
 any_goals (first | (refine hR5 _ ?_; clear hR5) | (first | omega | (simp only [IntKind.wrap_i64] at *; omega) | (simp_all; done) | (simp_all; omega)))
 try simp (maxSteps := 1000000) [h, List.take_succ_cons, List.take_zero, List.drop_succ_cons, List.drop_zero]
 repeat' (first | apply And.intro | intro _)
 any_goals (first | (refine hK3 _ ?_; clear hK3) | (first | omega | (simp only [IntKind.wrap_i64] at *; omega) | (simp_all; done) | (simp_all; omega)))
 refine swp_if fun C6 hC6 => ?_
 try simp (maxSteps := 1000000) [h]
 refine hC6 _ (fun hc6 => ?_) (fun hc6 => ?_)
 ·clear hC6
  try simp at hc6
  refine swp_seq fun K7 hK7 => ?_
  refine swp_region ty_ok ?_
  try simp (maxSteps := 1000000)
  repeat' (first | apply And.intro | intro _)
  any_goals (first | (refine hK7 _ ?_; clear hK7) | (first | omega | (simp only [IntKind.wrap_i64] at *; omega) | (simp_all; done) | (simp_all; omega)))
  refine swp_ret ?_
  simp [fnPost, Try.results55, resP, tupOf]
 ·exact absurd hc6 (by simp [h])

theorem found_ok (i : Nat) (h1 : 1 ≤ i) (h2 : i ≤ 12) (b : List Int) (at_ : Int) (hm : b.length ≤ 140737488355328) (hp : ∀ k : Nat, 0 ≤ b[k]?.getD 0 ∧ b[k]?.getD 0 ≤ 255) (hat : -9223372036854775808 ≤ at_ ∧ at_ ≤ 9223372036854775807) : PCall Try.prog 65 [bookV i, .ro (.ints .u8 b), .int .i64 at_] (.tup [.int .i64 (fdN (bPlain i) (bE i) b at_), .int .i64 (fdP (bPlain i) (bE i) b at_), .int .i64 (fdE (bPlain i) (bMany i) b at_)]) := by
 have hE := bke h1 h2
 have hB := bk_ok h1 h2
 have hel := hE.elen
 have hplain := hB.plain
 have hmany := hB.many
 rw [← hel]
 refine pcall_body ty_ok Try.func65 rfl (by rfl) (by simp) ?_
 rw [Try.ntmps65]
 refine swp_seq fun K1 hK1 => ?_
 refine swp_region ty_ok ?_
 try simp (maxSteps := 1000000) [bookV]
 repeat' (first | apply And.intro | intro _)
 any_goals (first | (refine hK1 _ ?_; clear hK1) | (first | omega | (simp only [IntKind.wrap_i64] at *; omega) | (simp_all; done) | (simp_all; omega)))
 refine swp_seq fun K2 hK2 => ?_
 refine swp_seq fun K3 hK3 => ?_
 refine swp_region ty_ok ?_
 try simp (maxSteps := 1000000) [bookV]
 repeat' (first | apply And.intro | intro _)
 any_goals (first | (refine hK3 _ ?_; clear hK3) | (first | omega | (simp only [IntKind.wrap_i64] at *; omega) | (simp_all; done) | (simp_all; omega)))
 refine swp_if fun C4 hC4 => ?_
 try simp (maxSteps := 1000000) [bookV]
 refine hC4 _ (fun hc4 => ?_) (fun hc4 => ?_)
 ·clear hC4
  try simp at hc4
  refine swp_seq fun K5 hK5 => ?_
  refine swp_region ty_ok ?_
  try simp (maxSteps := 1000000) [bookV]
  repeat' (first | apply And.intro | intro _)
  any_goals (first | (refine hK5 _ ?_; clear hK5) | (first | omega | (simp only [IntKind.wrap_i64] at *; omega) | (simp_all; done) | (simp_all; omega)))
  refine swp_ret ?_
  simp [fnPost, Try.results65, resP, tupOf]
  have hg : getE b at_ 1 = 2 := getE_arg (by have h := hc4; omega)
  have e0 : zE b at_ = 2 := by unfold zE; rw [zr_err (by omega) (by rw [hg]; omega)]; exact hg
  exact fd_err ((fd_z (by omega)).trans e0) (by omega)
 ·clear hC4
  try simp at hc4
  refine swp_skip ?_
  try simp only [thn, inBlk]
  refine hK2 _ ?_; clear hK2
  refine swp_seq fun K6 hK6 => ?_
  refine swp_region ty_ok ?_
  try simp (maxSteps := 1000000) [bookV]
  repeat' (first | apply And.intro | intro _)
  any_goals (first | (refine hK6 _ ?_; clear hK6) | (first | omega | (simp only [IntKind.wrap_i64] at *; omega) | (simp_all; done) | (simp_all; omega)))
  refine swp_seq fun K7 hK7 => ?_
  refine swp_block ?_
  refine swp_loop 1 (fun m_ s_ => ∃ (z : Nat) (q : Int), (z ≤ 10) ∧ (-9223372036854775808 ≤ q ∧ q ≤ 9223372036854775807) ∧ (zr b (10 - z) z q = zr b 10 0 at_) ∧ s_ = ⟨[(3, .ptr 0 0 0 1), (1, .ro (.ints .u8 b)), (9, .int .i64 (z : Nat)), (2, .int .i64 q)], [(0, some ⟨.rows 4 [[.int .i64 (i : Nat), .int .i64 (bPlain i : Nat), .ro (.ints .i64 (bE i)), .ro (.ints .i64 (bR i))]], true, 25⟩)], 1⟩ ∧ m_ = 11 - z) _ ⟨[(3, .ptr 0 0 0 1), (1, .ro (.ints .u8 b)), (9, .int .i64 (0 : Nat)), (2, .int .i64 at_)], [(0, some ⟨.rows 4 [[.int .i64 (i : Nat), .int .i64 (bPlain i : Nat), .ro (.ints .i64 (bE i)), .ro (.ints .i64 (bR i))]], true, 25⟩)], 1⟩ ⟨by simp [getT, PV.lo, lo1], by simp [getH, Blk.lo, Cells.lo, lo1], rfl, by omega⟩ ⟨(0), (at_), by omega, by exact hat, by rfl, rfl, rfl⟩ ?_
  rintro m_ s_ ⟨z, q, hL8_0, hL8_1, hL8_2, rfl, rfl⟩ KL8 hL8
  have hzw := wnext (i := z) (by omega)
  have hq := (by assumption : -9223372036854775808 ≤ q ∧ q ≤ 9223372036854775807)
  have hI := (by assumption : zr b (10 - z) z q = zr b 10 0 at_)
  refine swp_block ?_
  refine swp_seq fun K9 hK9 => ?_
  refine swp_seq fun K10 hK10 => ?_
  refine swp_region ty_ok ?_
  try simp (maxSteps := 1000000) [bookV]
  repeat' (first | apply And.intro | intro _)
  any_goals (first | (refine hK10 _ ?_; clear hK10) | (first | omega | (simp only [IntKind.wrap_i64] at *; omega) | (simp_all; done) | (simp_all; omega)))
  refine swp_if fun C11 hC11 => ?_
  try simp (maxSteps := 1000000) [bookV]
  refine hC11 _ (fun hc11 => ?_) (fun hc11 => ?_)
  ·clear hC11
   try simp at hc11
   refine swp_seq fun K12 hK12 => ?_
   refine swp_region ty_ok ?_
   try simp (maxSteps := 1000000) [bookV]
   repeat' (first | apply And.intro | intro _)
   any_goals (first | (refine hK12 _ ?_; clear hK12) | (first | omega | (simp only [IntKind.wrap_i64] at *; omega) | (simp_all; done) | (simp_all; omega)))
   refine swp_ret ?_
   simp [fnPost, Try.results65, resP, tupOf]
   have e0 : zE b at_ = 8 := by unfold zE; rw [← hI, show 10 - z = 0 by omega]; rfl
   exact fd_err ((fd_z (by omega)).trans e0) (by omega)
  ·clear hC11
   try simp at hc11
   refine swp_skip ?_
   try simp only [thn, inBlk]
   refine hK9 _ ?_; clear hK9
   refine swp_seq fun K13 hK13 => ?_
   refine swp_region ty_ok ?_
   refine runs_cut 2 fun R14 hR14 => ?_
   try simp (maxSteps := 1000000) [bookV, List.take_succ_cons, List.take_zero, List.drop_succ_cons, List.drop_zero]
   repeat' (first | apply And.intro | intro _)
   any_goals (first | (refine hR14 _ ?_; clear hR14) | (first | omega | (simp only [IntKind.wrap_i64] at *; omega) | (simp_all; done) | (simp_all; omega)))
   refine runs_cut 1 fun R15 hR15 => ?_
   try simp (maxSteps := 1000000) [bookV, List.take_succ_cons, List.take_zero, List.drop_succ_cons, List.drop_zero]
   refine .inl ⟨_, rget_ok b q 1 hm hp hq, ?_⟩
   try simp (maxSteps := 1000000) [bookV]
   repeat' (first | apply And.intro | intro _)
   any_goals (first | (refine hR15 _ ?_; clear hR15) | (first | omega | (simp only [IntKind.wrap_i64] at *; omega) | (simp_all; done) | (simp_all; omega)))
   try simp (maxSteps := 1000000) [bookV, List.take_succ_cons, List.take_zero, List.drop_succ_cons, List.drop_zero]
   repeat' (first | apply And.intro | intro _)
   any_goals (first | (refine hK13 _ ?_; clear hK13) | (first | omega | (simp only [IntKind.wrap_i64] at *; omega) | (simp_all; done) | (simp_all; omega)))
   refine swp_seq fun K16 hK16 => ?_
   refine swp_seq fun K17 hK17 => ?_
   refine swp_region ty_ok ?_
   try simp (maxSteps := 1000000) [bookV]
   repeat' (first | apply And.intro | intro _)
   any_goals (first | (refine hK17 _ ?_; clear hK17) | (first | omega | (simp only [IntKind.wrap_i64] at *; omega) | (simp_all; done) | (simp_all; omega)))
   refine swp_if fun C18 hC18 => ?_
   try simp (maxSteps := 1000000) [bookV]
   refine hC18 _ (fun hc18 => ?_) (fun hc18 => ?_)
   ·clear hC18
    try simp at hc18
    refine swp_seq fun K19 hK19 => ?_
    refine swp_region ty_ok ?_
    try simp (maxSteps := 1000000) [bookV]
    repeat' (first | apply And.intro | intro _)
    any_goals (first | (refine hK19 _ ?_; clear hK19) | (first | omega | (simp only [IntKind.wrap_i64] at *; omega) | (simp_all; done) | (simp_all; omega)))
    refine swp_ret ?_
    simp [fnPost, Try.results65, resP, tupOf]
    have e0 : zE b at_ = getE b q 1 := by unfold zE; rw [← hI, zr_err (by omega) hc18]
    exact fd_err ((fd_z (by rw [e0]; exact hc18)).trans e0) hc18
   ·clear hC18
    try simp at hc18
    refine swp_skip ?_
    try simp only [thn, inBlk]
    refine hK16 _ ?_; clear hK16
    refine swp_seq fun K20 hK20 => ?_
    have hg0 := hc18
    refine swp_region ty_ok ?_
    try simp (maxSteps := 1000000) [bookV]
    repeat' (first | apply And.intro | intro _)
    any_goals (first | (refine hK20 _ ?_; clear hK20) | (first | omega | (simp only [IntKind.wrap_i64] at *; omega) | (simp_all; done) | (simp_all; omega)))
    refine swp_seq fun K21 hK21 => ?_
    refine swp_seq fun K22 hK22 => ?_
    refine swp_region ty_ok ?_
    try simp (maxSteps := 1000000) [bookV]
    repeat' (first | apply And.intro | intro _)
    any_goals (first | (refine hK22 _ ?_; clear hK22) | (first | omega | (simp only [IntKind.wrap_i64] at *; omega) | (simp_all; done) | (simp_all; omega)))
    refine swp_if fun C23 hC23 => ?_
    try simp (maxSteps := 1000000) [bookV]
    refine hC23 _ (fun hc23 => ?_) (fun hc23 => ?_)
    ·clear hC23
     try simp at hc23
     refine swp_exit ?_
     simp [thn, inBlk]
     refine hK7 _ ?_; clear hK7
     refine swp_seq fun K24 hK24 => ?_
     obtain ⟨hzE, hzP, hzZ⟩ := zr_fin (hI.symm.trans (zr_one (by omega) hg0 (by have h := hc23; omega)))
     subst hzZ
     have hq1 : -9223372036854775808 ≤ zP b at_ ∧ zP b at_ ≤ 9223372036854775807 := (by have := getP_bd (b := b) (p := q) (size := 1) hm; omega)
     refine swp_region ty_ok ?_
     refine runs_cut 3 fun R25 hR25 => ?_
     try simp (maxSteps := 1000000) [bookV, ← hzP, List.take_succ_cons, List.take_zero, List.drop_succ_cons, List.drop_zero]
     repeat' (first | apply And.intro | intro _)
     any_goals (first | (refine hR25 _ ?_; clear hR25) | (first | omega | (simp only [IntKind.wrap_i64] at *; omega) | (simp_all; done) | (simp_all; omega)))
     refine runs_cut 1 fun R26 hR26 => ?_
     try simp (maxSteps := 1000000) [bookV, ← hzP, List.take_succ_cons, List.take_zero, List.drop_succ_cons, List.drop_zero]
     refine .inl ⟨_, rget_ok b (zP b at_) (zZ b at_ : Nat) hm hp hq1, ?_⟩
     try simp (maxSteps := 1000000) [bookV, ← hzP]
     repeat' (first | apply And.intro | intro _)
     any_goals (first | (refine hR26 _ ?_; clear hR26) | (first | omega | (simp only [IntKind.wrap_i64] at *; omega) | (simp_all; done) | (simp_all; omega)))
     try simp (maxSteps := 1000000) [bookV, ← hzP, List.take_succ_cons, List.take_zero, List.drop_succ_cons, List.drop_zero]
     repeat' (first | apply And.intro | intro _)
     any_goals (first | (refine hK24 _ ?_; clear hK24) | (first | omega | (simp only [IntKind.wrap_i64] at *; omega) | (simp_all; done) | (simp_all; omega)))
     refine swp_seq fun K27 hK27 => ?_
     refine swp_seq fun K28 hK28 => ?_
     refine swp_region ty_ok ?_
     try simp (maxSteps := 1000000) [bookV]
     repeat' (first | apply And.intro | intro _)
     any_goals (first | (refine hK28 _ ?_; clear hK28) | (first | omega | (simp only [IntKind.wrap_i64] at *; omega) | (simp_all; done) | (simp_all; omega)))
     refine swp_if fun C29 hC29 => ?_
     try simp (maxSteps := 1000000) [bookV]
     refine hC29 _ (fun hc29 => ?_) (fun hc29 => ?_)
     ·clear hC29
      try simp at hc29
      refine swp_seq fun K30 hK30 => ?_
      refine swp_region ty_ok ?_
      try simp (maxSteps := 1000000) [bookV]
      repeat' (first | apply And.intro | intro _)
      any_goals (first | (refine hK30 _ ?_; clear hK30) | (first | omega | (simp only [IntKind.wrap_i64] at *; omega) | (simp_all; done) | (simp_all; omega)))
      refine swp_ret ?_
      simp [fnPost, Try.results65, resP, tupOf]
      exact fd_err (fd_h hzE hc29) hc29
     ·clear hC29
      try simp at hc29
      refine swp_skip ?_
      try simp only [thn, inBlk]
      refine hK27 _ ?_; clear hK27
      refine swp_seq fun K31 hK31 => ?_
      have hhE := hc29
      have hq2 : -9223372036854775808 ≤ hP b at_ ∧ hP b at_ ≤ 9223372036854775807 := (by have := getP_bd (b := b) (p := zP b at_) (size := (zZ b at_ : Nat)) hm; unfold hP; omega)
      refine swp_region ty_ok ?_
      refine runs_cut 4 fun R32 hR32 => ?_
      try simp (maxSteps := 1000000) [bookV, List.take_succ_cons, List.take_zero, List.drop_succ_cons, List.drop_zero]
      repeat' (first | apply And.intro | intro _)
      any_goals (first | (refine hR32 _ ?_; clear hR32) | (first | omega | (simp only [IntKind.wrap_i64] at *; omega) | (simp_all; done) | (simp_all; omega)))
      refine runs_cut 1 fun R33 hR33 => ?_
      try simp (maxSteps := 1000000) [bookV, List.take_succ_cons, List.take_zero, List.drop_succ_cons, List.drop_zero]
      refine .inl ⟨_, rget_ok b (hP b at_) (bPlain i : Nat) hm hp hq2, ?_⟩
      try simp (maxSteps := 1000000) [bookV]
      repeat' (first | apply And.intro | intro _)
      any_goals (first | (refine hR33 _ ?_; clear hR33) | (first | omega | (simp only [IntKind.wrap_i64] at *; omega) | (simp_all; done) | (simp_all; omega)))
      try simp (maxSteps := 1000000) [bookV, List.take_succ_cons, List.take_zero, List.drop_succ_cons, List.drop_zero]
      repeat' (first | apply And.intro | intro _)
      any_goals (first | (refine hK31 _ ?_; clear hK31) | (first | omega | (simp only [IntKind.wrap_i64] at *; omega) | (simp_all; done) | (simp_all; omega)))
      refine swp_seq fun K34 hK34 => ?_
      refine swp_seq fun K35 hK35 => ?_
      refine swp_region ty_ok ?_
      try simp (maxSteps := 1000000) [bookV]
      repeat' (first | apply And.intro | intro _)
      any_goals (first | (refine hK35 _ ?_; clear hK35) | (first | omega | (simp only [IntKind.wrap_i64] at *; omega) | (simp_all; done) | (simp_all; omega)))
      refine swp_if fun C36 hC36 => ?_
      try simp (maxSteps := 1000000) [bookV]
      refine hC36 _ (fun hc36 => ?_) (fun hc36 => ?_)
      ·clear hC36
       try simp at hc36
       refine swp_seq fun K37 hK37 => ?_
       refine swp_region ty_ok ?_
       try simp (maxSteps := 1000000) [bookV]
       repeat' (first | apply And.intro | intro _)
       any_goals (first | (refine hK37 _ ?_; clear hK37) | (first | omega | (simp only [IntKind.wrap_i64] at *; omega) | (simp_all; done) | (simp_all; omega)))
       refine swp_ret ?_
       simp [fnPost, Try.results65, resP, tupOf]
       exact fd_err (fd_l hzE hhE hc36) hc36
      ·clear hC36
       try simp at hc36
       refine swp_skip ?_
       try simp only [thn, inBlk]
       refine hK34 _ ?_; clear hK34
       refine swp_seq fun K38 hK38 => ?_
       have hlE := hc36
       have hF := rkF (p := bPlain i) hp hplain hzE
       have f0 := hF.z
       have f2 := hF.a
       have f3 := hF.o
       have f5 := hF.u
       have f6 := hF.l
       have f7 := hF.r
       have f8 := twoN_eq (zZ b at_)
       have f9 := twoN_eq (bPlain i)
       refine swp_draw ty_ok mixed (ms := [0, 1, 0, 7, 15, 0, 32, 99, 255, 0, 1023, 2047]) (by kernel_rfl) ?_
       refine runD_cut 1 fun R39 hR39 => ?_
       try simp (maxSteps := 1000000) [bookV, f2, f3, f5, f6, f8, f9, List.take_succ_cons, List.take_zero, List.drop_succ_cons, List.drop_zero]
       repeat' (first | apply And.intro | intro _)
       any_goals (first | (refine hR39 _ _ _ _ ?_; clear hR39) | (first | omega | (simp only [IntKind.wrap_i64] at *; omega) | (simp_all; done) | (simp_all; omega)))
       refine runD_cut 1 fun R40 hR40 => ?_
       try simp (maxSteps := 1000000) [bookV, f2, f3, f5, f6, f8, f9, List.take_succ_cons, List.take_zero, List.drop_succ_cons, List.drop_zero]
       refine .inl ⟨_, two_ok (zZ b at_) (by omega), ?_⟩
       try simp (maxSteps := 1000000) [bookV, f2, f3, f5, f6, f8, f9]
       repeat' (first | apply And.intro | intro _)
       any_goals (first | (refine hR40 _ _ _ _ ?_; clear hR40) | (first | omega | (simp only [IntKind.wrap_i64] at *; omega) | (simp_all; done) | (simp_all; omega)))
       refine runD_cut 5 fun R41 hR41 => ?_
       try simp (maxSteps := 1000000) [bookV, f2, f3, f5, f6, f8, f9, List.take_succ_cons, List.take_zero, List.drop_succ_cons, List.drop_zero]
       repeat' (first | apply And.intro | intro _)
       any_goals (first | (refine hR41 _ _ _ _ ?_; clear hR41) | (first | omega | (simp only [IntKind.wrap_i64] at *; omega) | (simp_all; done) | (simp_all; omega)))
       refine runD_cut 1 fun R42 hR42 => ?_
       try simp (maxSteps := 1000000) [bookV, f2, f3, f5, f6, f8, f9, List.take_succ_cons, List.take_zero, List.drop_succ_cons, List.drop_zero]
       refine .inl ⟨_, two_ok (bPlain i) (by omega), ?_⟩
       try simp (maxSteps := 1000000) [bookV, f2, f3, f5, f6, f8, f9]
       repeat' (first | apply And.intro | intro _)
       any_goals (first | (refine hR42 _ _ _ _ ?_; clear hR42) | (first | omega | (simp only [IntKind.wrap_i64] at *; omega) | (simp_all; done) | (simp_all; omega)))
       try simp (maxSteps := 1000000) [bookV, f2, f3, f5, f6, f8, f9, List.take_succ_cons, List.take_zero, List.drop_succ_cons, List.drop_zero]
       repeat' (first | apply And.intro | intro _)
       any_goals (first | kernel_rfl | (refine hK38 _ ?_; clear hK38) | (first | omega | (simp only [IntKind.wrap_i64] at *; omega) | (simp_all; done) | (simp_all; omega)))
       refine swp_seq fun K44 hK44 => ?_
       refine swp_seq fun K45 hK45 => ?_
       refine swp_region ty_ok ?_
       try simp (maxSteps := 1000000) [bookV]
       repeat' (first | apply And.intro | intro _)
       any_goals (first | (refine hK45 _ ?_; clear hK45) | (first | omega | (simp only [IntKind.wrap_i64] at *; omega) | (simp_all; done) | (simp_all; omega)))
       refine swp_if fun C46 hC46 => ?_
       try simp (maxSteps := 1000000) [bookV]
       refine hC46 _ (fun hc46 => ?_) (fun hc46 => ?_)
       ·clear hC46
        try simp at hc46
        refine swp_seq fun K47 hK47 => ?_
        refine swp_region ty_ok ?_
        try simp (maxSteps := 1000000) [bookV]
        repeat' (first | apply And.intro | intro _)
        any_goals (first | (refine hK47 _ ?_; clear hK47) | (first | omega | (simp only [IntKind.wrap_i64] at *; omega) | (simp_all; done) | (simp_all; omega)))
        refine swp_ret ?_
        simp [fnPost, Try.results65, resP, tupOf]
        exact fd_err (fd_r (N := (bE i).length) (p := bPlain i) hzE hhE hlE (by have h := hc46; omega)) (by omega)
       ·clear hC46
        try simp at hc46
        refine swp_skip ?_
        try simp only [thn, inBlk]
        refine hK44 _ ?_; clear hK44
        refine swp_seq fun K48 hK48 => ?_
        refine swp_region ty_ok ?_
        try simp (maxSteps := 1000000) [bookV]
        repeat' (first | apply And.intro | intro _)
        any_goals (first | (refine hK48 _ ?_; clear hK48) | (first | omega | (simp only [IntKind.wrap_i64] at *; omega) | (simp_all; done) | (simp_all; omega)))
        refine swp_ret ?_
        simp [fnPost, Try.results65, resP, tupOf]
        exact fd_ok (p := bPlain i) (es := bE i) hzE hhE hlE (by have h := hc46; omega)
    ·clear hC23
     try simp at hc23
     refine swp_skip ?_
     try simp only [thn, inBlk]
     refine hK21 _ ?_; clear hK21
     refine swp_region ty_ok ?_
     try simp (maxSteps := 1000000) [bookV]
     repeat' apply And.intro
     any_goals (try omega)
     refine hL8 _ ⟨[(3, .ptr 0 0 0 1), (1, .ro (.ints .u8 b)), (9, .int .i64 ((z + 1) : Nat)), (2, .int .i64 (getP b q 1))], [(0, some ⟨.rows 4 [[.int .i64 (i : Nat), .int .i64 (bPlain i : Nat), .ro (.ints .i64 (bE i)), .ro (.ints .i64 (bR i))]], true, 25⟩)], 1⟩ _ ?_ ⟨(z + 1), (getP b q 1), by omega, by (have := getP_bd (b := b) (p := q) (size := 1) hm; omega), by (rw [← hI, zr_next (by omega) hg0 (by rcases bit1 hp q with h | h; exact h; exact absurd h hc23)]; rfl), rfl, rfl⟩ ⟨by simp [getT, PV.lo, lo1, hzw], by simp [getH, Blk.lo, Cells.lo, lo1], rfl, by omega⟩
     omega

end Go.Proofs.Ytgheplondkoedaa

