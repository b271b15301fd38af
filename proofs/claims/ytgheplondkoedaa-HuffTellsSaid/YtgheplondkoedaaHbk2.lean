import Derived.Test.YtgheplondkoedaaWf
import Derived.Test.YtgheplondkoedaaTyh
import Derived.Test.YtgheplondkoedaaBkq
import Derived.Test.YtgheplondkoedaaHsrt
import Derived.Test.YtgheplondkoedaaHbk
namespace Go.Proofs.Ytgheplondkoedaa
set_option linter.unusedVariables false
set_option linter.unusedSimpArgs false
set_option maxRecDepth 10000
open Go Go.Pv

def bookV (i : Nat) : PV := .agg [.int .i64 (i : Nat), .int .i64 (bPlain i : Nat), .ro (.ints .i64 (bE i)), .ro (.ints .i64 (bR i))]

attribute [local simp] runs gd step1 need evu un opnds opv ev cst cst1 cstL getT getH putT onL nxt argT cellsOf PV.one thn inBlk jmp fldP ldP ldC live Cells.len Cells.get Cells.w sug ldv bin eqF eq1 ops2 sh2 binv Tk.agg stC apC rdS apS cpC cpS mvL zp argsP idx fillP toInts chunks mkC ixS ixA oidx slP sl0 slA optL List.append mxF bltn frzA frz frzL frz1 pur1 Cells.pur PV.scal scal1 runD rdO PV.ids id1 zids ety Eff.on cnd minb and1b ifmax ifmin mxv sugI strv w0 w1 w2 wm1
theorem ent_ok (i : Nat) (h1 : 1 ≤ i) (h2 : i ≤ 12) (vs : List Int) : PCall Try.prog 44 [.int .i64 (i : Nat), .ro (.ints .i64 vs)] (.tup [.int .i64 (entV i vs), .int .i64 (entE i vs)]) := by
 have hB := bk_ok h1 h2
 have hdim := hB.dim
 have hlow := hB.low
 have hhigh := hB.high
 have hwide := hB.wide
 have hmany := hB.many
 have hplain := hB.plain
 refine pcall_body ty_ok Try.func44 rfl (by rfl) (by simp) ?_
 rw [Try.ntmps44]
 refine swp_seq fun K1 hK1 => ?_
 refine swp_region ty_ok ?_
 try simp (maxSteps := 1000000)
 repeat' (first | apply And.intro | intro _)
 any_goals (first | (refine hK1 _ ?_; clear hK1) | (first | omega | (simp only [IntKind.wrap_i64] at *; omega) | (simp_all; done) | (simp_all; omega)))
 refine swp_seq fun K2 hK2 => ?_
 refine swp_region ty_ok ?_
 refine runs_cut 1 fun R3 hR3 => ?_
 try simp (maxSteps := 1000000) [List.take_succ_cons, List.take_zero, List.drop_succ_cons, List.drop_zero]
 repeat' (first | apply And.intro | intro _)
 any_goals (first | (refine hR3 _ ?_; clear hR3) | (first | omega | (simp only [IntKind.wrap_i64] at *; omega) | (simp_all; done) | (simp_all; omega)))
 refine runs_cut 1 fun R4 hR4 => ?_
 try simp (maxSteps := 1000000) [List.take_succ_cons, List.take_zero, List.drop_succ_cons, List.drop_zero]
 refine .inl ⟨_, of_ok i h1 h2, ?_⟩
 try simp (maxSteps := 1000000)
 repeat' (first | apply And.intro | intro _)
 any_goals (first | (refine hR4 _ ?_; clear hR4) | (first | omega | (simp only [IntKind.wrap_i64] at *; omega) | (simp_all; done) | (simp_all; omega)))
 try simp (maxSteps := 1000000) [List.take_succ_cons, List.take_zero, List.drop_succ_cons, List.drop_zero]
 repeat' (first | apply And.intro | intro _)
 any_goals (first | (refine hK2 _ ?_; clear hK2) | (first | omega | (simp only [IntKind.wrap_i64] at *; omega) | (simp_all; done) | (simp_all; omega)))
 refine swp_seq fun K5 hK5 => ?_
 refine swp_block ?_
 refine swp_seq fun K6 hK6 => ?_
 refine swp_region ty_ok ?_
 try simp (maxSteps := 1000000)
 repeat' (first | apply And.intro | intro _)
 any_goals (first | (refine hK6 _ ?_; clear hK6) | (first | omega | (simp only [IntKind.wrap_i64] at *; omega) | (simp_all; done) | (simp_all; omega)))
 refine swp_if fun C7 hC7 => ?_
 try simp (maxSteps := 1000000)
 refine hC7 _ (fun hc7 => ?_) (fun hc7 => ?_)
 ·exact absurd hc7 (by simp)
 ·clear hC7
  try simp at hc7
  refine swp_seq fun K8 hK8 => ?_
  refine swp_region ty_ok ?_
  try simp (maxSteps := 1000000)
  repeat' (first | apply And.intro | intro _)
  any_goals (first | (refine hK8 _ ?_; clear hK8) | (first | omega | (simp only [IntKind.wrap_i64] at *; omega) | (simp_all; done) | (simp_all; omega)))
  refine swp_if fun C9 hC9 => ?_
  try simp (maxSteps := 1000000)
  refine hC9 _ (fun hc9 => ?_) (fun hc9 => ?_)
  ·clear hC9
   try simp at hc9
   refine swp_seq fun K10 hK10 => ?_
   refine swp_region ty_ok ?_
   try simp (maxSteps := 1000000)
   repeat' (first | apply And.intro | intro _)
   any_goals (first | (refine hK10 _ ?_; clear hK10) | (first | omega | (simp only [IntKind.wrap_i64] at *; omega) | (simp_all; done) | (simp_all; omega)))
   refine swp_ret ?_
   simp [fnPost, Try.results44, resP, tupOf]
   obtain ⟨h1, h2⟩ := entE_many (i := i) (vs := vs) (by have h := hc9; omega)
   exact ⟨h2, h1⟩
  ·clear hC9
   try simp at hc9
   refine swp_skip ?_
   try simp only [thn, inBlk]
   refine hK5 _ ?_; clear hK5
   refine swp_seq fun K11 hK11 => ?_
   refine swp_region ty_ok ?_
   try simp (maxSteps := 1000000)
   repeat' (first | apply And.intro | intro _)
   any_goals (first | (refine hK11 _ ?_; clear hK11) | (first | omega | (simp only [IntKind.wrap_i64] at *; omega) | (simp_all; done) | (simp_all; omega)))
   refine swp_seq fun K12 hK12 => ?_
   refine swp_seq fun K13 hK13 => ?_
   refine swp_region ty_ok ?_
   try simp (maxSteps := 1000000)
   repeat' (first | apply And.intro | intro _)
   any_goals (first | (refine hK13 _ ?_; clear hK13) | (first | omega | (simp only [IntKind.wrap_i64] at *; omega) | (simp_all; done) | (simp_all; omega)))
   refine swp_block ?_
   have hlen : vs.length = bDim i := (by have h := hc9; omega)
   refine swp_loop 1 (fun m_ s_ => ∃ (j : Nat), (j ≤ vs.length) ∧ (∀ v ∈ vs.take j, inR i v = true) ∧ s_ = ⟨[(1, .ro (.ints .i64 vs)), (6, .ptr 0 0 0 1), (8, .int .i64 (entN i (vs.take j) : Nat)), (26, .ro (.ints .i64 vs)), (27, .int .i64 vs.length), (28, .int .i64 (j : Nat))], [(0, some ⟨.rows 4 [[.int .i64 (bDim i : Nat), .int .i64 (bLow i), .int .i64 (bHigh i), .int .i64 (bPlain i : Nat)]], true, 115⟩)], 1⟩ ∧ m_ = vs.length - j) _ ⟨[(1, .ro (.ints .i64 vs)), (6, .ptr 0 0 0 1), (8, .int .i64 (entN i (vs.take 0) : Nat)), (26, .ro (.ints .i64 vs)), (27, .int .i64 vs.length), (28, .int .i64 (0 : Nat))], [(0, some ⟨.rows 4 [[.int .i64 (bDim i : Nat), .int .i64 (bLow i), .int .i64 (bHigh i), .int .i64 (bPlain i : Nat)]], true, 115⟩)], 1⟩ ⟨by simp [getT, PV.lo, lo1, entN], by simp [getH, Blk.lo, Cells.lo, lo1], rfl, by omega⟩ ⟨(0), by omega, by simp, rfl, rfl⟩ ?_
   rintro m_ s_ ⟨j, hL14_0, hL14_1, rfl, rfl⟩ KL14 hL14
   have hjw := wnext (i := j) (by omega)
   have hall := (by assumption : ∀ v ∈ vs.take j, inR i v = true)
   refine swp_seq fun K15 hK15 => ?_
   refine swp_region ty_ok ?_
   try simp (maxSteps := 1000000)
   repeat' (first | apply And.intro | intro _)
   any_goals (first | (refine hK15 _ ?_; clear hK15) | (first | omega | (simp only [IntKind.wrap_i64] at *; omega) | (simp_all; done) | (simp_all; omega)))
   refine swp_seq fun K16 hK16 => ?_
   refine swp_if fun C17 hC17 => ?_
   try simp (maxSteps := 1000000)
   refine hC17 _ (fun hc17 => ?_) (fun hc17 => ?_)
   ·clear hC17
    try simp at hc17
    refine swp_skip ?_
    try simp only [thn, inBlk]
    refine hK16 _ ?_; clear hK16
    refine swp_seq fun K18 hK18 => ?_
    refine swp_block ?_
    refine swp_seq fun K19 hK19 => ?_
    refine swp_region ty_ok ?_
    try simp (maxSteps := 1000000)
    repeat' (first | apply And.intro | intro _)
    any_goals (first | (refine hK19 _ ?_; clear hK19) | (first | omega | (simp only [IntKind.wrap_i64] at *; omega) | (simp_all; done) | (simp_all; omega)))
    refine swp_seq fun K20 hK20 => ?_
    refine swp_seq fun K21 hK21 => ?_
    refine swp_region ty_ok ?_
    try simp (maxSteps := 1000000)
    repeat' (first | apply And.intro | intro _)
    any_goals (first | (refine hK21 _ ?_; clear hK21) | (first | omega | (simp only [IntKind.wrap_i64] at *; omega) | (simp_all; done) | (simp_all; omega)))
    refine swp_if fun C22 hC22 => ?_
    try simp (maxSteps := 1000000)
    refine hC22 _ (fun hc22 => ?_) (fun hc22 => ?_)
    ·clear hC22
     try simp at hc22
     refine swp_seq fun K23 hK23 => ?_
     refine swp_region ty_ok ?_
     try simp (maxSteps := 1000000)
     repeat' (first | apply And.intro | intro _)
     any_goals (first | (refine hK23 _ ?_; clear hK23) | (first | omega | (simp only [IntKind.wrap_i64] at *; omega) | (simp_all; done) | (simp_all; omega)))
     refine swp_ret ?_
     simp [fnPost, Try.results44, resP, tupOf]
     obtain ⟨h1, h2⟩ := entE_arg (i := i) (vs := vs) hlen (j := j) (by omega) (by have h := hc22; simp [inR]; omega)
     exact ⟨h2, h1⟩
    ·clear hC22
     try simp at hc22
     refine swp_skip ?_
     try simp only [thn, inBlk]
     refine hK20 _ ?_; clear hK20
     have hj : j < vs.length := (by omega)
     have hin : inR i (vs[j]?.getD 0) = true := (by have h := hc22; simp [inR]; omega)
     have hbd0 := entN_bd hB _ (inR_snoc hj hall hin)
     have hpw := bPow_le hB (j := (vs.take (j + 1)).length) (by simp; omega)
     unfold bPow at hpw
     have hsn := entN_take (i := i) hj
     obtain ⟨v, hv⟩ : ∃ v, vs[j]?.getD 0 = v := ⟨_, rfl⟩
     have hin2 := hin
     rw [hv] at hin2 hsn
     simp only [inR, decide_eq_true_eq] at hin2
     obtain ⟨w, hw⟩ : ∃ w : Nat, (w : Int) = v - bLow i := ⟨(v - bLow i).toNat, by omega⟩
     have hw2 : (v - bLow i).toNat = w := (by omega)
     rw [hw2] at hsn
     obtain ⟨q, hq⟩ : ∃ q, entN i (vs.take j) * bWide i = q := ⟨_, rfl⟩
     rw [hq] at hsn
     have hmul : IntKind.i64.wrap ((entN i (vs.take j) : Nat) * (bWide i : Nat) : Int) = (q : Nat) := by rw [w64 (by rw [← Int.natCast_mul, hq]; omega), ← Int.natCast_mul, hq]
     have hadd : IntKind.i64.wrap ((q : Nat) + vs[j]?.getD 0 : Int) = (q : Nat) + v := by rw [hv, w64 (by omega)]
     have hsub : IntKind.i64.wrap ((q : Nat) + v - bLow i : Int) = (entN i (vs.take (j + 1)) : Nat) := by rw [w64 (by omega), hsn]; omega
     refine swp_draw ty_ok mixed (ms := [0, 0, 2, 7, 0, 31, 0, 64, 255, 511]) (by kernel_rfl) ?_
     refine runD_cut 2 fun R24 hR24 => ?_
     try simp (maxSteps := 1000000) [hmul, hadd, hsub, List.take_succ_cons, List.take_zero, List.drop_succ_cons, List.drop_zero]
     repeat' (first | apply And.intro | intro _)
     any_goals (first | (refine hR24 _ _ _ _ ?_; clear hR24) | (first | omega | (simp only [IntKind.wrap_i64] at *; omega) | (simp_all; done) | (simp_all; omega)))
     refine runD_cut 1 fun R25 hR25 => ?_
     try simp (maxSteps := 1000000) [hmul, hadd, hsub, List.take_succ_cons, List.take_zero, List.drop_succ_cons, List.drop_zero]
     refine .inl ⟨_, wide_ok i h1 h2, ?_⟩
     try simp (maxSteps := 1000000) [hmul, hadd, hsub]
     repeat' (first | apply And.intro | intro _)
     any_goals (first | (refine hR25 _ _ _ _ ?_; clear hR25) | (first | omega | (simp only [IntKind.wrap_i64] at *; omega) | (simp_all; done) | (simp_all; omega)))
     try simp (maxSteps := 1000000) [hmul, hadd, hsub, List.take_succ_cons, List.take_zero, List.drop_succ_cons, List.drop_zero]
     repeat' (first | apply And.intro | intro _)
     any_goals (first | kernel_rfl | (refine hK18 _ ?_; clear hK18) | (first | omega | (simp only [IntKind.wrap_i64] at *; omega) | (simp_all; done) | (simp_all; omega)))
     refine swp_region ty_ok ?_
     try simp (maxSteps := 1000000)
     repeat' apply And.intro
     any_goals (try omega)
     refine hL14 _ ⟨[(1, .ro (.ints .i64 vs)), (6, .ptr 0 0 0 1), (8, .int .i64 (entN i (vs.take (j + 1)) : Nat)), (26, .ro (.ints .i64 vs)), (27, .int .i64 vs.length), (28, .int .i64 ((j + 1) : Nat))], [(0, some ⟨.rows 4 [[.int .i64 (bDim i : Nat), .int .i64 (bLow i), .int .i64 (bHigh i), .int .i64 (bPlain i : Nat)]], true, 115⟩)], 1⟩ _ ?_ ⟨(j + 1), by omega, by exact inR_snoc hj hall hin, rfl, rfl⟩ ⟨by simp [getT, PV.lo, lo1, hjw], by simp [getH, Blk.lo, Cells.lo, lo1], rfl, by omega⟩
     omega
   ·clear hC17
    try simp at hc17
    refine swp_exit ?_
    simp [thn, inBlk]
    refine hK12 _ ?_; clear hK12
    refine swp_seq fun K27 hK27 => ?_
    refine swp_region ty_ok ?_
    try simp (maxSteps := 1000000)
    repeat' (first | apply And.intro | intro _)
    any_goals (first | (refine hK27 _ ?_; clear hK27) | (first | omega | (simp only [IntKind.wrap_i64] at *; omega) | (simp_all; done) | (simp_all; omega)))
    refine swp_ret ?_
    simp [fnPost, Try.results44, resP, tupOf]
    have hj : j = vs.length := (by omega)
    subst hj
    rw [List.take_length] at *
    obtain ⟨h1, h2⟩ := entE_fin hlen hall
    exact ⟨h2, h1⟩

end Go.Proofs.Ytgheplondkoedaa

