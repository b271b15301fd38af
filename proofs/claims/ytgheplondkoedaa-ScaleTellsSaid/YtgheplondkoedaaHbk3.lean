import Derived.Test.YtgheplondkoedaaWf
import Derived.Test.YtgheplondkoedaaTyh
import Derived.Test.YtgheplondkoedaaBkq
import Derived.Test.YtgheplondkoedaaHsrt
import Derived.Test.YtgheplondkoedaaHbk
import Derived.Test.YtgheplondkoedaaHbk2
namespace Go.Proofs.Ytgheplondkoedaa
set_option linter.unusedVariables false
set_option linter.unusedSimpArgs false
set_option maxRecDepth 10000
open Go Go.Pv

attribute [local simp] runs gd step1 need evu un opnds opv ev cst cst1 cstL getT getH putT onL nxt argT cellsOf PV.one thn inBlk jmp fldP ldP ldC live Cells.len Cells.get Cells.w sug ldv bin eqF eq1 ops2 sh2 binv Tk.agg stC apC rdS apS cpC cpS mvL zp argsP idx fillP toInts chunks mkC ixS ixA oidx slP sl0 slA optL List.append mxF bltn frzA frz frzL frz1 pur1 Cells.pur PV.scal scal1 runD rdO PV.ids id1 zids ety Eff.on cnd minb and1b ifmax ifmin mxv sugI strv w0 w1 w2 wm1
set_option maxHeartbeats 4000000 in
theorem right_in (i : Nat) (h1 : 1 ≤ i) (h2 : i ≤ 12) (p : Int) (es rs : List Int) : PCall Try.prog 82 [.agg [.int .i64 (i : Nat), .int .i64 p, .ro (.ints .i64 es), .ro (.ints .i64 rs)]] (.bool (rightI i p es rs)) := by
 have hB := bk_ok h1 h2
 have hdim := hB.dim
 have hlow := hB.low
 have hhigh := hB.high
 have hwide := hB.wide
 have hmany := hB.many
 have hplain := hB.plain
 have hE := bke h1 h2
 have hzl := bSzs_len hB
 refine pcall_body ty_ok Try.func82 rfl (by rfl) (by simp) ?_
 rw [Try.ntmps82]
 refine swp_seq fun K1 hK1 => ?_
 refine swp_region ty_ok ?_
 try simp (maxSteps := 1000000)
 repeat' (first | apply And.intro | intro _)
 any_goals (first | (refine hK1 _ ?_; clear hK1) | omega | (simp_all <;> omega))
 refine swp_seq fun K2 hK2 => ?_
 refine swp_region ty_ok ?_
 refine runs_cut 2 fun R3 hR3 => ?_
 try simp (maxSteps := 1000000) [List.take_succ_cons, List.take_zero, List.drop_succ_cons, List.drop_zero]
 repeat' (first | apply And.intro | intro _)
 any_goals (first | (refine hR3 _ ?_; clear hR3) | omega | (simp_all <;> omega))
 refine runs_cut 1 fun R4 hR4 => ?_
 try simp (maxSteps := 1000000) [List.take_succ_cons, List.take_zero, List.drop_succ_cons, List.drop_zero]
 refine .inl ⟨_, of_ok i h1 h2, ?_⟩
 try simp (maxSteps := 1000000)
 repeat' (first | apply And.intro | intro _)
 any_goals (first | (refine hR4 _ ?_; clear hR4) | omega | (simp_all <;> omega))
 try simp (maxSteps := 1000000) [List.take_succ_cons, List.take_zero, List.drop_succ_cons, List.drop_zero]
 repeat' (first | apply And.intro | intro _)
 any_goals (first | (refine hK2 _ ?_; clear hK2) | omega | (simp_all <;> omega))
 refine swp_seq fun K5 hK5 => ?_
 refine swp_seq fun K6 hK6 => ?_
 refine swp_draw ty_ok mixed (ms := [0, 1, 3, 7, 15, 7, 39, 127, 255, 511, 1023, 2047, 4095, 1023, 9215, 32767, 65535, 131071, 262143, 524287, 1048575, 262143, 2359295, 8388607, 16777215]) (by kernel_rfl) ?_
 refine runD_cut 7 fun R7 hR7 => ?_
 try simp (maxSteps := 1000000) [List.take_succ_cons, List.take_zero, List.drop_succ_cons, List.drop_zero]
 repeat' (first | apply And.intro | intro _)
 any_goals (first | (refine hR7 _ _ _ _ ?_; clear hR7) | omega | (simp_all <;> omega))
 refine runD_cut 7 fun R8 hR8 => ?_
 try simp (maxSteps := 1000000) [List.take_succ_cons, List.take_zero, List.drop_succ_cons, List.drop_zero]
 repeat' (first | apply And.intro | intro _)
 any_goals (first | (refine hR8 _ _ _ _ ?_; clear hR8) | omega | (simp_all <;> omega))
 refine runD_cut 1 fun R9 hR9 => ?_
 try simp (maxSteps := 1000000) [List.take_succ_cons, List.take_zero, List.drop_succ_cons, List.drop_zero]
 first | refine .inl ⟨_, fun hb => .inl ⟨many_ok i h1 h2, rfl⟩, ?_⟩ | refine .inl ⟨_, .inl ⟨many_ok i h1 h2, rfl⟩, ?_⟩ | refine .inl ⟨_, fun hb => .inl (many_ok i h1 h2), ?_⟩ | refine .inl ⟨_, .inl (many_ok i h1 h2), ?_⟩ | refine .inl ⟨_, by (intros; exact Or.inl (many_ok i h1 h2)), ?_⟩ | refine .inl ⟨_, by (intros; exact Or.inl ⟨many_ok i h1 h2, rfl⟩), ?_⟩ | refine .inl ⟨_, fun hb => .inl ⟨_, many_ok i h1 h2, by (try simp); exact ⟨rfl, rfl⟩⟩, ?_⟩ | refine ⟨_, fun hb => .inl ⟨many_ok i h1 h2, rfl⟩, ?_⟩ | refine ⟨_, .inl ⟨many_ok i h1 h2, rfl⟩, ?_⟩ | refine ⟨_, fun hb => .inl (many_ok i h1 h2), ?_⟩ | refine ⟨_, .inl (many_ok i h1 h2), ?_⟩ | refine ⟨_, by (intros; exact Or.inl (many_ok i h1 h2)), ?_⟩ | refine ⟨_, by (intros; exact Or.inl ⟨many_ok i h1 h2, rfl⟩), ?_⟩ | refine ⟨_, fun hb => .inl ⟨_, many_ok i h1 h2, by (try simp); exact ⟨rfl, rfl⟩⟩, ?_⟩
 repeat' (first | apply And.intro | intro _)
 any_goals (first | (refine hR9 _ _ _ _ ?_; clear hR9) | omega | (simp_all <;> omega))
 refine runD_cut 7 fun R10 hR10 => ?_
 try simp (maxSteps := 1000000) [List.take_succ_cons, List.take_zero, List.drop_succ_cons, List.drop_zero]
 repeat' (first | apply And.intro | intro _)
 any_goals (first | (refine hR10 _ _ _ _ ?_; clear hR10) | omega | (simp_all <;> omega))
 refine runD_cut 1 fun R11 hR11 => ?_
 try simp (maxSteps := 1000000) [List.take_succ_cons, List.take_zero, List.drop_succ_cons, List.drop_zero]
 first | refine .inl ⟨_, fun hb => .inl ⟨many_ok i h1 h2, rfl⟩, ?_⟩ | refine .inl ⟨_, .inl ⟨many_ok i h1 h2, rfl⟩, ?_⟩ | refine .inl ⟨_, fun hb => .inl (many_ok i h1 h2), ?_⟩ | refine .inl ⟨_, .inl (many_ok i h1 h2), ?_⟩ | refine .inl ⟨_, by (intros; exact Or.inl (many_ok i h1 h2)), ?_⟩ | refine .inl ⟨_, by (intros; exact Or.inl ⟨many_ok i h1 h2, rfl⟩), ?_⟩ | refine .inl ⟨_, fun hb => .inl ⟨_, many_ok i h1 h2, by (try simp); exact ⟨rfl, rfl⟩⟩, ?_⟩ | refine ⟨_, fun hb => .inl ⟨many_ok i h1 h2, rfl⟩, ?_⟩ | refine ⟨_, .inl ⟨many_ok i h1 h2, rfl⟩, ?_⟩ | refine ⟨_, fun hb => .inl (many_ok i h1 h2), ?_⟩ | refine ⟨_, .inl (many_ok i h1 h2), ?_⟩ | refine ⟨_, by (intros; exact Or.inl (many_ok i h1 h2)), ?_⟩ | refine ⟨_, by (intros; exact Or.inl ⟨many_ok i h1 h2, rfl⟩), ?_⟩ | refine ⟨_, fun hb => .inl ⟨_, many_ok i h1 h2, by (try simp); exact ⟨rfl, rfl⟩⟩, ?_⟩
 repeat' (first | apply And.intro | intro _)
 any_goals (first | (refine hR11 _ _ _ _ ?_; clear hR11) | omega | (simp_all <;> omega))
 try simp (maxSteps := 1000000) [List.take_succ_cons, List.take_zero, List.drop_succ_cons, List.drop_zero]
 repeat' (first | apply And.intro | intro _)
 any_goals (first | kernel_rfl | (refine hK6 _ ?_; clear hK6) | omega | (simp_all <;> omega))
 refine swp_if fun C13 hC13 => ?_
 try simp (maxSteps := 1000000)
 refine hC13 _ (fun hc13 => ?_) (fun hc13 => ?_)
 ·clear hC13
  try simp at hc13
  refine swp_seq fun K14 hK14 => ?_
  refine swp_region ty_ok ?_
  try simp (maxSteps := 1000000)
  repeat' (first | apply And.intro | intro _)
  any_goals (first | (refine hK14 _ ?_; clear hK14) | omega | (simp_all <;> omega))
  refine swp_ret ?_
  simp [fnPost, Try.results82, resP, tupOf]
  exact rightI_len hE (by have h := hc13; omega)
 ·clear hC13
  try simp at hc13
  refine swp_skip ?_
  try simp only [thn, inBlk]
  refine hK5 _ ?_; clear hK5
  refine swp_seq fun K15 hK15 => ?_
  refine swp_region ty_ok ?_
  refine runs_cut 1 fun R16 hR16 => ?_
  try simp (maxSteps := 1000000) [hzl, List.take_succ_cons, List.take_zero, List.drop_succ_cons, List.drop_zero]
  repeat' (first | apply And.intro | intro _)
  any_goals (first | (refine hR16 _ ?_; clear hR16) | omega | (simp_all <;> omega))
  refine runs_cut 1 fun R17 hR17 => ?_
  try simp (maxSteps := 1000000) [hzl, List.take_succ_cons, List.take_zero, List.drop_succ_cons, List.drop_zero]
  refine .inl ⟨_, sizes_ok i h1 h2, ?_⟩
  try simp (maxSteps := 1000000) [hzl]
  repeat' (first | apply And.intro | intro _)
  any_goals (first | (refine hR17 _ ?_; clear hR17) | omega | (simp_all <;> omega))
  try simp (maxSteps := 1000000) [hzl, List.take_succ_cons, List.take_zero, List.drop_succ_cons, List.drop_zero]
  repeat' (first | apply And.intro | intro _)
  any_goals (first | (refine hK15 _ ?_; clear hK15) | omega | (simp_all <;> omega))
  refine swp_seq fun K18 hK18 => ?_
  refine swp_seq fun K19 hK19 => ?_
  refine swp_region ty_ok ?_
  try simp (maxSteps := 1000000)
  repeat' (first | apply And.intro | intro _)
  any_goals (first | (refine hK19 _ ?_; clear hK19) | omega | (simp_all <;> omega))
  refine swp_block ?_
  have hlen : p = bPlain i ∧ es.length = bMany i ∧ rs.length = bMany i := (by have h := hc13; omega)
  refine swp_loop 203 (fun m_ s_ => ∃ (j : Nat), (j ≤ es.length) ∧ (∀ r < j, CkN i es rs r) ∧ s_ = ⟨[(1, .ptr 0 0 0 1), (3, .ptr 1 0 0 1), (5, .ptr 202 0 0 1), (43, .ro (.ints .i64 es)), (44, .int .i64 es.length), (45, .int .i64 (j : Nat))], [(0, some ⟨.rows 4 [[.int .i64 (i : Nat), .int .i64 p, .ro (.ints .i64 es), .ro (.ints .i64 rs)]], true, 25⟩), (1, some ⟨.rows 4 [[.int .i64 (bDim i : Nat), .int .i64 (bLow i), .int .i64 (bHigh i), .int .i64 (bPlain i : Nat)]], true, 115⟩), (202, some ⟨.rows 289 [(bSzs i).map (PV.int .u8)], true, 118⟩)], 203⟩ ∧ m_ = es.length - j) _ ⟨[(1, .ptr 0 0 0 1), (3, .ptr 1 0 0 1), (5, .ptr 202 0 0 1), (43, .ro (.ints .i64 es)), (44, .int .i64 es.length), (45, .int .i64 (0 : Nat))], [(0, some ⟨.rows 4 [[.int .i64 (i : Nat), .int .i64 p, .ro (.ints .i64 es), .ro (.ints .i64 rs)]], true, 25⟩), (1, some ⟨.rows 4 [[.int .i64 (bDim i : Nat), .int .i64 (bLow i), .int .i64 (bHigh i), .int .i64 (bPlain i : Nat)]], true, 115⟩), (202, some ⟨.rows 289 [(bSzs i).map (PV.int .u8)], true, 118⟩)], 203⟩ ⟨by simp [getT, PV.lo, lo1], by simp [getH, Blk.lo, Cells.lo, lo1], rfl, by omega⟩ ⟨(0), by omega, by (intro r hr; omega), rfl, rfl⟩ ?_
  rintro m_ s_ ⟨j, hL20_0, hL20_1, rfl, rfl⟩ KL20 hL20
  have hjw := wnext (i := j) (by omega)
  have hall := (by assumption : ∀ r < j, CkN i es rs r)
  refine swp_seq fun K21 hK21 => ?_
  refine swp_region ty_ok ?_
  try simp (maxSteps := 1000000)
  repeat' (first | apply And.intro | intro _)
  any_goals (first | (refine hK21 _ ?_; clear hK21) | omega | (simp_all <;> omega))
  refine swp_seq fun K22 hK22 => ?_
  refine swp_if fun C23 hC23 => ?_
  try simp (maxSteps := 1000000)
  refine hC23 _ (fun hc23 => ?_) (fun hc23 => ?_)
  ·clear hC23
   try simp at hc23
   refine swp_skip ?_
   try simp only [thn, inBlk]
   refine hK22 _ ?_; clear hK22
   refine swp_seq fun K24 hK24 => ?_
   refine swp_block ?_
   refine swp_seq fun K25 hK25 => ?_
   refine swp_region ty_ok ?_
   try simp (maxSteps := 1000000)
   repeat' (first | apply And.intro | intro _)
   any_goals (first | (refine hK25 _ ?_; clear hK25) | omega | (simp_all <;> omega))
   refine swp_seq fun K26 hK26 => ?_
   refine swp_seq fun K27 hK27 => ?_
   refine swp_region ty_ok ?_
   refine runs_cut 9 fun R28 hR28 => ?_
   try simp (maxSteps := 1000000) [List.take_succ_cons, List.take_zero, List.drop_succ_cons, List.drop_zero]
   repeat' (first | apply And.intro | intro _)
   any_goals (first | (refine hR28 _ ?_; clear hR28) | omega | (simp_all <;> omega))
   try simp (maxSteps := 1000000) [List.take_succ_cons, List.take_zero, List.drop_succ_cons, List.drop_zero]
   repeat' (first | apply And.intro | intro _)
   any_goals (first | (refine hK27 _ ?_; clear hK27) | omega | (simp_all <;> omega))
   refine swp_if fun C29 hC29 => ?_
   try simp (maxSteps := 1000000)
   refine hC29 _ (fun hc29 => ?_) (fun hc29 => ?_)
   ·clear hC29
    try simp at hc29
    refine swp_seq fun K30 hK30 => ?_
    refine swp_region ty_ok ?_
    try simp (maxSteps := 1000000)
    repeat' (first | apply And.intro | intro _)
    any_goals (first | (refine hK30 _ ?_; clear hK30) | omega | (simp_all <;> omega))
    refine swp_ret ?_
    simp [fnPost, Try.results82, resP, tupOf]
    exact rightI_no hE (j := j) (by omega) (fun ck => by have h := hc29; have ckb := ck.b; have ckk := ck.k; omega)
   ·clear hC29
    try simp at hc29
    refine swp_skip ?_
    try simp only [thn, inBlk]
    refine hK26 _ ?_; clear hK26
    refine swp_seq fun K31 hK31 => ?_
    refine swp_seq fun K32 hK32 => ?_
    refine swp_region ty_ok ?_
    try simp (maxSteps := 1000000)
    repeat' (first | apply And.intro | intro _)
    any_goals (first | (refine hK32 _ ?_; clear hK32) | omega | (simp_all <;> omega))
    refine swp_if fun C33 hC33 => ?_
    try simp (maxSteps := 1000000)
    refine hC33 _ (fun hc33 => ?_) (fun hc33 => ?_)
    ·clear hC33
     try simp at hc33
     refine swp_exit ?_
     simp [thn, inBlk]
     refine hK24 _ ?_; clear hK24
     refine swp_region ty_ok ?_
     try simp (maxSteps := 1000000)
     repeat' apply And.intro
     any_goals (try omega)
     refine hL20 _ ⟨[(1, .ptr 0 0 0 1), (3, .ptr 1 0 0 1), (5, .ptr 202 0 0 1), (43, .ro (.ints .i64 es)), (44, .int .i64 es.length), (45, .int .i64 ((j + 1) : Nat))], [(0, some ⟨.rows 4 [[.int .i64 (i : Nat), .int .i64 p, .ro (.ints .i64 es), .ro (.ints .i64 rs)]], true, 25⟩), (1, some ⟨.rows 4 [[.int .i64 (bDim i : Nat), .int .i64 (bLow i), .int .i64 (bHigh i), .int .i64 (bPlain i : Nat)]], true, 115⟩), (202, some ⟨.rows 289 [(bSzs i).map (PV.int .u8)], true, 118⟩)], 203⟩ _ ?_ ⟨(j + 1), by omega, by exact ck_snoc hall ⟨by omega, by omega, fun h0 => by omega⟩, rfl, rfl⟩ ⟨by simp [getT, PV.lo, lo1, hjw], by simp [getH, Blk.lo, Cells.lo, lo1], rfl, by omega⟩
     omega
    ·clear hC33
     try simp at hc33
     refine swp_skip ?_
     try simp only [thn, inBlk]
     refine hK31 _ ?_; clear hK31
     refine swp_seq fun K34 hK34 => ?_
     have hjp : 1 ≤ j := (by have h := hc33; omega)
     have hj1 : IntKind.i64.wrap ((j : Int) - 1) = ((j - 1 : Nat) : Int) := by rw [w64 (by omega)]; omega
     refine swp_region ty_ok ?_
     try simp (maxSteps := 1000000) [hj1]
     repeat' (first | apply And.intro | intro _)
     any_goals (first | (refine hK34 _ ?_; clear hK34) | omega | (simp_all <;> omega))
     refine swp_seq fun K35 hK35 => ?_
     have hjp : 1 ≤ j := (by have h := hc33; omega)
     have ck0 := (hall (j - 1) (by omega)).b
     have hzx := bSzs_at hB (x := es[j - 1]?.getD 0) (by omega)
     have hzy := bSzs_at hB (x := es[j]?.getD 0) (by omega)
     have hmx := map_at (k := .u8) (l := bSzs i) (j := (es[j - 1]?.getD 0).toNat) (by omega)
     have hmy := map_at (k := .u8) (l := bSzs i) (j := (es[j]?.getD 0).toNat) (by omega)
     rw [hzx] at hmx
     rw [hzy] at hmy
     refine swp_draw ty_ok mixed (ms := [0, 1, 3, 0, 8, 24, 63, 127, 255, 511, 1023, 255, 2303, 6399, 16383, 32767, 65535, 65535, 262143, 524287, 1048575]) (by kernel_rfl) ?_
     refine runD_cut 10 fun R36 hR36 => ?_
     try simp (maxSteps := 1000000) [hmx, hmy, hzl, List.take_succ_cons, List.take_zero, List.drop_succ_cons, List.drop_zero]
     repeat' (first | apply And.intro | intro _)
     any_goals (first | (refine hR36 _ _ _ _ ?_; clear hR36) | omega | (simp_all <;> omega))
     try simp (maxSteps := 1000000) [hmx, hmy, hzl, List.take_succ_cons, List.take_zero, List.drop_succ_cons, List.drop_zero]
     repeat' (first | apply And.intro | intro _)
     any_goals (first | kernel_rfl | (refine hK35 _ ?_; clear hK35) | omega | (simp_all <;> omega))
     refine swp_if fun C38 hC38 => ?_
     try simp (maxSteps := 1000000) [hmx, hmy, hzl]
     refine hC38 _ (fun hc38 => ?_) (fun hc38 => ?_)
     ·clear hC38
      try simp at hc38
      refine swp_seq fun K39 hK39 => ?_
      refine swp_region ty_ok ?_
      try simp (maxSteps := 1000000)
      repeat' (first | apply And.intro | intro _)
      any_goals (first | (refine hK39 _ ?_; clear hK39) | omega | (simp_all <;> omega))
      refine swp_ret ?_
      simp [fnPost, Try.results82, resP, tupOf]
      exact rightI_no hE (j := j) (by omega) (fun ck => by have h := hc38; have cks := ck.s (by omega); omega)
     ·clear hC38
      try simp at hc38
      refine swp_skip ?_
      try simp only [thn, inBlk]
      refine hK24 _ ?_; clear hK24
      refine swp_region ty_ok ?_
      try simp (maxSteps := 1000000)
      repeat' apply And.intro
      any_goals (try omega)
      refine hL20 _ ⟨[(1, .ptr 0 0 0 1), (3, .ptr 1 0 0 1), (5, .ptr 202 0 0 1), (43, .ro (.ints .i64 es)), (44, .int .i64 es.length), (45, .int .i64 ((j + 1) : Nat))], [(0, some ⟨.rows 4 [[.int .i64 (i : Nat), .int .i64 p, .ro (.ints .i64 es), .ro (.ints .i64 rs)]], true, 25⟩), (1, some ⟨.rows 4 [[.int .i64 (bDim i : Nat), .int .i64 (bLow i), .int .i64 (bHigh i), .int .i64 (bPlain i : Nat)]], true, 115⟩), (202, some ⟨.rows 289 [(bSzs i).map (PV.int .u8)], true, 118⟩)], 203⟩ _ ?_ ⟨(j + 1), by omega, by exact ck_snoc hall ⟨by omega, by omega, fun h0 => by omega⟩, rfl, rfl⟩ ⟨by simp [getT, PV.lo, lo1, hjw], by simp [getH, Blk.lo, Cells.lo, lo1], rfl, by omega⟩
      omega
  ·clear hC23
   try simp at hc23
   refine swp_exit ?_
   simp [thn, inBlk]
   refine hK18 _ ?_; clear hK18
   refine swp_seq fun K40 hK40 => ?_
   refine swp_region ty_ok ?_
   try simp (maxSteps := 1000000)
   repeat' (first | apply And.intro | intro _)
   any_goals (first | (refine hK40 _ ?_; clear hK40) | omega | (simp_all <;> omega))
   refine swp_ret ?_
   simp [fnPost, Try.results82, resP, tupOf]
   exact rightI_yes hE hlen.1 hlen.2.1 hlen.2.2 (fun r hr => hall r (by omega))

end Go.Proofs.Ytgheplondkoedaa

