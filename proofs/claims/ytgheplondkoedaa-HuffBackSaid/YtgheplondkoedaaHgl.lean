import Derived.Test.YtgheplondkoedaaWf
import Derived.Test.YtgheplondkoedaaTyh
import Derived.Test.YtgheplondkoedaaBkq
import Derived.Test.YtgheplondkoedaaHsrt
import Derived.Test.YtgheplondkoedaaHbk
import Derived.Test.YtgheplondkoedaaHbk2
import Derived.Test.YtgheplondkoedaaHbk3
import Derived.Test.YtgheplondkoedaaHbits
import Derived.Test.YtgheplondkoedaaHrd
import Derived.Test.YtgheplondkoedaaHrdq
import Derived.Test.YtgheplondkoedaaHbits2
import Derived.Test.YtgheplondkoedaaHbk4
import Derived.Test.YtgheplondkoedaaHbk5
import Derived.Test.YtgheplondkoedaaHbk6
import Derived.Test.YtgheplondkoedaaHbk8
import Derived.Test.YtgheplondkoedaaHbk9
import Derived.Test.YtgheplondkoedaaHgrow
import Derived.Test.YtgheplondkoedaaHst
import Derived.Test.YtgheplondkoedaaHrep
import Derived.Test.YtgheplondkoedaaHputh
import Derived.Test.YtgheplondkoedaaHft
import Derived.Test.YtgheplondkoedaaHpt
import Derived.Test.YtgheplondkoedaaHsg
import Derived.Test.YtgheplondkoedaaHgh
import Derived.Test.YtgheplondkoedaaHgb
import Derived.Test.YtgheplondkoedaaHgt
import Derived.Test.YtgheplondkoedaaHgr
namespace Go.Proofs.Ytgheplondkoedaa
set_option linter.unusedVariables false
set_option linter.unusedSimpArgs false
set_option maxRecDepth 10000
open Go Go.Pv

open Go.RowKit
def TBd (b es rs vs : List Int) : Prop := b.length ≤ 10000 ∧ es.length ≤ 2000 ∧ rs.length ≤ 2000 ∧ vs.length ≤ 1000
theorem hs1_bits (v : Int) : ∀ y ∈ hS1 v, 0 ≤ y ∧ y ≤ 1 := by
  unfold hS1
  split
  · simp
  · split <;> simp
theorem he1_bits (i : Nat) (v : Int) : ∀ y ∈ hE1 i v, 0 ≤ y ∧ y ≤ 1 := by
  unfold hE1
  split
  · intro y hy
    rcases List.mem_append.1 hy with h | h
    · have := List.eq_of_mem_replicate h; omega
    · rcases List.mem_cons.1 h with h | h
      · omega
      · have := bitsOf_bit _ _ y h; omega
  · simp
theorem huffL_bits (i : Nat) (vs : List Int) : ∀ y ∈ huffL i vs, 0 ≤ y ∧ y ≤ 1 := by
  have hc : ∀ r, ∀ y ∈ codeL (bPlain i) r, 0 ≤ y ∧ y ≤ 1 := fun r y hy => by have := codeL_bits (bPlain i) r y hy; omega
  unfold huffL
  split
  · exact hc _
  · intro y hy
    rcases List.mem_append.1 hy with h | h
    · rcases List.mem_append.1 h with h | h
      · exact hc _ y h
      · obtain ⟨v, _, h2⟩ := List.mem_flatMap.1 h; exact hs1_bits v y h2
    · obtain ⟨v, _, h2⟩ := List.mem_flatMap.1 h; exact he1_bits i v y h2
attribute [local simp] runs gd step1 need evu un opnds opv ev cst cst1 cstL getT getH putT onL nxt argT cellsOf PV.one thn inBlk jmp fldP ldP ldC live Cells.len Cells.get Cells.w sug ldv bin eqF eq1 ops2 sh2 binv Tk.agg stC apC rdS apS cpC cpS mvL zp argsP idx fillP toInts chunks mkC ixS ixA oidx slP sl0 slA optL List.append mxF bltn frzA frz frzL frz1 pur1 Cells.pur PV.scal scal1 runD rdO PV.ids id1 zids ety Eff.on cnd minb and1b ifmax ifmin mxv sugI strv w0 w1 w2 wm1
set_option maxHeartbeats 4000000 in
theorem back9_fit (x : Nat) (hx : x ≤ 255) (vs be b : List Int) (at_ : Int) (hbe : ∀ y ∈ be, 0 ≤ y ∧ y ≤ 255) (hb : ∀ k : Nat, 0 ≤ b[k]?.getD 0 ∧ b[k]?.getD 0 ≤ 255) (hat : -9223372036854775808 ≤ at_ ∧ at_ ≤ 9223372036854775807) (i : Nat) (hi : x % 11 + 1 = i) (hd : vs.length = bDim i) (hf : hFit i vs = true) : PCall Try.prog 13 [.int .u8 (x : Nat), .ro (.ints .i64 vs), .ro (.ints .u8 be), .ro (.ints .u8 b), .int .i64 at_] (.bool true) := by
  have h1 : 1 ≤ i := (by omega)
  have h2 : i ≤ 11 := (by omega)
  have hxw : IntKind.i64.wrap (x : Int) = x := w64 (by omega)
  have hxa : IntKind.i64.wrap ((x : Int) % 11) = (x : Int) % 11 := w64 (by omega)
  have hxb : IntKind.i64.wrap ((x : Int) % 11 + 1) = (i : Nat) := by rw [w64 (by omega)]; omega
  have hxt : (x : Int).tmod 11 = (x : Int) % 11 := tmod_nat (a := x) (b := 11) rfl
  have hE := bke h1 (by omega)
  have hB := bk_ok h1 (by omega)
  have hmany := hB.many
  have hplain := hB.plain
  have hel := hE.elen
  have hrl := hE.rlen
  have hmz : ¬ bMany i = 0 := (by omega)
  have hvb : ∀ e, ∀ v ∈ bVal i e, -60 ≤ v ∧ v ≤ 60 := fun e v hv => by have := bDg_bd hB _ _ v hv; have := hB.low; have := hB.high; omega
  have hxt : (x : Int).tmod 11 = (x : Int) % 11 := num11
  obtain ⟨b1, b2, b3⟩ := put_got (be := be) h1 h2 hd hf
  have hsl := huffL_len h1 h2 hd hf
  have hput0 := hput_ok i h1 h2 [] vs hd hf (by simp)
  have hcost0 := hcost_fit i h1 h2 vs hd hf
  have hbits : ∀ k : Nat, 0 ≤ (huffL i vs ++ be)[k]?.getD 0 ∧ (huffL i vs ++ be)[k]?.getD 0 ≤ 255 := at255b fun y hy => by
    rcases List.mem_append.1 hy with h | h
    · have := huffL_bits i vs y h; omega
    · exact hbe y h
  obtain ⟨C, hC⟩ : ∃ C, huffL i vs = C := ⟨_, rfl⟩
  rw [hC] at b1 b2 b3 hsl hput0 hcost0 hbits
  refine pcall_body ty_ok Try.func13 rfl (by rfl) (by simp) ?_
  rw [Try.ntmps13]
  refine swp_seq fun K1 hK1 => ?_
  refine swp_region ty_ok ?_
  try simp (maxSteps := 1000000) [bookV]
  repeat' (first | apply And.intro | intro _)
  any_goals (first | (refine hK1 _ ?_; clear hK1) | (first | omega | (simp only [IntKind.wrap_i64] at *; omega) | (simp_all; done) | (simp_all; omega)))
  refine swp_seq fun K2 hK2 => ?_
  refine swp_region ty_ok ?_
  refine runs_cut 1 fun R3 hR3 => ?_
  try simp (maxSteps := 1000000) [bookV, List.take_succ_cons, List.take_zero, List.drop_succ_cons, List.drop_zero]
  refine .inl ⟨_, alive9, ?_⟩
  try simp (maxSteps := 1000000) [bookV]
  repeat' (first | apply And.intro | intro _)
  any_goals (first | (refine hR3 _ ?_; clear hR3) | (first | omega | (simp only [IntKind.wrap_i64] at *; omega) | (simp_all; done) | (simp_all; omega)))
  try simp (maxSteps := 1000000) [bookV, List.take_succ_cons, List.take_zero, List.drop_succ_cons, List.drop_zero]
  repeat' (first | apply And.intro | intro _)
  any_goals (first | (refine hK2 _ ?_; clear hK2) | (first | omega | (simp only [IntKind.wrap_i64] at *; omega) | (simp_all; done) | (simp_all; omega)))
  refine swp_seq fun K4 hK4 => ?_
  refine swp_seq fun K5 hK5 => ?_
  refine swp_region ty_ok ?_
  refine runs_cut 8 fun R6 hR6 => ?_
  try simp (maxSteps := 1000000) [bookV, List.take_succ_cons, List.take_zero, List.drop_succ_cons, List.drop_zero]
  repeat' (first | apply And.intro | intro _)
  any_goals (first | (refine hR6 _ ?_; clear hR6) | (first | omega | (simp only [IntKind.wrap_i64] at *; omega) | (simp_all; done) | (simp_all; omega)))
  try simp (maxSteps := 1000000) [bookV, List.take_succ_cons, List.take_zero, List.drop_succ_cons, List.drop_zero]
  repeat' (first | apply And.intro | intro _)
  any_goals (first | (refine hK5 _ ?_; clear hK5) | (first | omega | (simp only [IntKind.wrap_i64] at *; omega) | (simp_all; done) | (simp_all; omega)))
  refine swp_if fun C7 hC7 => ?_
  try simp (maxSteps := 1000000) [bookV]
  refine hC7 _ (fun hc7 => ?_) (fun hc7 => ?_)
  · clear hC7
    try simp at hc7
    refine swp_seq fun K8 hK8 => ?_
    refine swp_region ty_ok ?_
    try simp (maxSteps := 1000000) [bookV]
    repeat' (first | apply And.intro | intro _)
    any_goals (first | (refine hK8 _ ?_; clear hK8) | (first | omega | (simp only [IntKind.wrap_i64] at *; omega) | (simp_all; done) | (simp_all; omega)))
    refine swp_ret ?_
    simp [fnPost, Try.results13, resP, tupOf]
  · clear hC7
    try simp at hc7
    refine swp_skip ?_
    try simp only [thn, inBlk]
    refine hK4 _ ?_; clear hK4
    refine swp_seq fun K9 hK9 => ?_
    refine swp_region ty_ok ?_
    refine runs_cut 4 fun R10 hR10 => ?_
    try simp (maxSteps := 1000000) [bookV, hxt, hxa, hxb, hxw, List.take_succ_cons, List.take_zero, List.drop_succ_cons, List.drop_zero]
    repeat' (first | apply And.intro | intro _)
    any_goals (first | (refine hR10 _ ?_; clear hR10) | (first | omega | (simp only [IntKind.wrap_i64] at *; omega) | (simp_all; done) | (simp_all; omega)))
    refine runs_cut 1 fun R11 hR11 => ?_
    try simp (maxSteps := 1000000) [bookV, hxt, hxa, hxb, hxw, List.take_succ_cons, List.take_zero, List.drop_succ_cons, List.drop_zero]
    refine .inl ⟨_, get_book i h1 (by omega), ?_⟩
    try simp (maxSteps := 1000000) [bookV, hxt, hxa, hxb, hxw]
    repeat' (first | apply And.intro | intro _)
    any_goals (first | (refine hR11 _ ?_; clear hR11) | (first | omega | (simp only [IntKind.wrap_i64] at *; omega) | (simp_all; done) | (simp_all; omega)))
    try simp (maxSteps := 1000000) [bookV, hxt, hxa, hxb, hxw, List.take_succ_cons, List.take_zero, List.drop_succ_cons, List.drop_zero]
    repeat' (first | apply And.intro | intro _)
    any_goals (first | (refine hK9 _ ?_; clear hK9) | (first | omega | (simp only [IntKind.wrap_i64] at *; omega) | (simp_all; done) | (simp_all; omega)))
    refine swp_seq fun K12 hK12 => ?_
    refine swp_seq fun K13 hK13 => ?_
    refine swp_region ty_ok ?_
    try simp (maxSteps := 1000000) [bookV]
    repeat' (first | apply And.intro | intro _)
    any_goals (first | (refine hK13 _ ?_; clear hK13) | (first | omega | (simp only [IntKind.wrap_i64] at *; omega) | (simp_all; done) | (simp_all; omega)))
    refine swp_if fun C14 hC14 => ?_
    try simp (maxSteps := 1000000) [bookV]
    refine hC14 _ (fun hc14 => ?_) (fun hc14 => ?_)
    · exfalso
      have h := hc14
      simp at h
    · clear hC14
      try simp at hc14
      refine swp_skip ?_
      try simp only [thn, inBlk]
      refine hK12 _ ?_; clear hK12
      refine swp_seq fun K15 hK15 => ?_
      refine swp_region ty_ok ?_
      refine runs_cut 2 fun R16 hR16 => ?_
      try simp (maxSteps := 1000000) [bookV, List.take_succ_cons, List.take_zero, List.drop_succ_cons, List.drop_zero]
      repeat' (first | apply And.intro | intro _)
      any_goals (first | (refine hR16 _ ?_; clear hR16) | (first | omega | (simp only [IntKind.wrap_i64] at *; omega) | (simp_all; done) | (simp_all; omega)))
      refine runs_cut 1 fun R17 hR17 => ?_
      try simp (maxSteps := 1000000) [bookV, List.take_succ_cons, List.take_zero, List.drop_succ_cons, List.drop_zero]
      refine .inl ⟨_, hput0, ?_⟩
      try simp (maxSteps := 1000000) [bookV]
      repeat' (first | apply And.intro | intro _)
      any_goals (first | (refine hR17 _ ?_; clear hR17) | (first | omega | (simp only [IntKind.wrap_i64] at *; omega) | (simp_all; done) | (simp_all; omega)))
      try simp (maxSteps := 1000000) [bookV, List.take_succ_cons, List.take_zero, List.drop_succ_cons, List.drop_zero]
      repeat' (first | apply And.intro | intro _)
      any_goals (first | (refine hK15 _ ?_; clear hK15) | (first | omega | (simp only [IntKind.wrap_i64] at *; omega) | (simp_all; done) | (simp_all; omega)))
      refine swp_seq fun K18 hK18 => ?_
      refine swp_region ty_ok ?_
      refine runs_cut 3 fun R19 hR19 => ?_
      try simp (maxSteps := 1000000) [bookV, List.take_succ_cons, List.take_zero, List.drop_succ_cons, List.drop_zero]
      repeat' (first | apply And.intro | intro _)
      any_goals (first | (refine hR19 _ ?_; clear hR19) | (first | omega | (simp only [IntKind.wrap_i64] at *; omega) | (simp_all; done) | (simp_all; omega)))
      refine runs_cut 1 fun R20 hR20 => ?_
      try simp (maxSteps := 1000000) [bookV, List.take_succ_cons, List.take_zero, List.drop_succ_cons, List.drop_zero]
      refine .inl ⟨_, fits_ok i h1 h2 vs hd, ?_⟩
      try simp (maxSteps := 1000000) [bookV]
      repeat' (first | apply And.intro | intro _)
      any_goals (first | (refine hR20 _ ?_; clear hR20) | (first | omega | (simp only [IntKind.wrap_i64] at *; omega) | (simp_all; done) | (simp_all; omega)))
      try simp (maxSteps := 1000000) [bookV, List.take_succ_cons, List.take_zero, List.drop_succ_cons, List.drop_zero]
      repeat' (first | apply And.intro | intro _)
      any_goals (first | (refine hK18 _ ?_; clear hK18) | (first | omega | (simp only [IntKind.wrap_i64] at *; omega) | (simp_all; done) | (simp_all; omega)))
      refine swp_seq fun K21 hK21 => ?_
      refine swp_seq fun K22 hK22 => ?_
      refine swp_region ty_ok ?_
      try simp (maxSteps := 1000000) [bookV]
      repeat' (first | apply And.intro | intro _)
      any_goals (first | (refine hK22 _ ?_; clear hK22) | (first | omega | (simp only [IntKind.wrap_i64] at *; omega) | (simp_all; done) | (simp_all; omega)))
      refine swp_if fun C23 hC23 => ?_
      try simp (maxSteps := 1000000) [bookV]
      refine hC23 _ (fun hc23 => ?_) (fun hc23 => ?_)
      · exfalso
        have h := hc23
        simp [hf] at h
      · clear hC23
        try simp at hc23
        refine swp_skip ?_
        try simp only [thn, inBlk]
        refine hK21 _ ?_; clear hK21
        refine swp_seq fun K24 hK24 => ?_
        refine swp_seq fun K25 hK25 => ?_
        refine swp_region ty_ok ?_
        try simp (maxSteps := 1000000) [bookV]
        repeat' (first | apply And.intro | intro _)
        any_goals (first | (refine hK25 _ ?_; clear hK25) | (first | omega | (simp only [IntKind.wrap_i64] at *; omega) | (simp_all; done) | (simp_all; omega)))
        refine swp_if fun C26 hC26 => ?_
        try simp (maxSteps := 1000000) [bookV]
        refine hC26 _ (fun hc26 => ?_) (fun hc26 => ?_)
        · clear hC26
          try simp at hc26
          refine swp_seq fun K27 hK27 => ?_
          refine swp_draw ty_ok mixed (ms := [0, 0, 3, 0, 15, 0, 63, 127, 255, 255, 255, 511, 3071, 8191]) (by kernel_rfl) ?_
          refine runD_cut 1 fun R28 hR28 => ?_
          try simp (maxSteps := 1000000) [bookV, List.take_succ_cons, List.take_zero, List.drop_succ_cons, List.drop_zero]
          repeat' (first | apply And.intro | intro _)
          any_goals (first | (refine Or.inr (hR28 _ _ _ _ ?_); clear hR28) | (first | omega | (simp only [IntKind.wrap_i64] at *; omega) | (simp_all; done) | (simp_all; omega)))
          refine runD_cut 5 fun R29 hR29 => ?_
          try simp (maxSteps := 1000000) [bookV, List.take_succ_cons, List.take_zero, List.drop_succ_cons, List.drop_zero]
          repeat' (first | apply And.intro | intro _)
          any_goals (first | (refine hR29 _ _ _ _ ?_; clear hR29) | (first | omega | (simp only [IntKind.wrap_i64] at *; omega) | (simp_all; done) | (simp_all; omega)))
          refine runD_cut 1 fun R30 hR30 => ?_
          try simp (maxSteps := 1000000) [bookV, List.take_succ_cons, List.take_zero, List.drop_succ_cons, List.drop_zero]
          refine .inl ⟨_, (by have := hget_ok i h1 h2 (C ++ be) 0 (by rw [List.length_append]; omega) hbits (by omega); rw [b1, b2, b3] at this; exact this), ?_⟩
          try simp (maxSteps := 1000000) [bookV]
          repeat' (first | apply And.intro | intro _)
          any_goals (first | (refine hR30 _ _ _ _ ?_; clear hR30) | (first | omega | (simp only [IntKind.wrap_i64] at *; omega) | (simp_all; done) | (simp_all; omega)))
          try simp (maxSteps := 1000000) [bookV, List.take_succ_cons, List.take_zero, List.drop_succ_cons, List.drop_zero]
          repeat' (first | apply And.intro | intro _)
          any_goals (first | kernel_rfl | (refine hK27 _ ?_; clear hK27) | (first | omega | (simp only [IntKind.wrap_i64] at *; omega) | (simp_all; done) | (simp_all; omega)))
          refine swp_seq fun K32 hK32 => ?_
          refine swp_region ty_ok ?_
          refine runs_cut 2 fun R33 hR33 => ?_
          try simp (maxSteps := 1000000) [bookV, List.take_succ_cons, List.take_zero, List.drop_succ_cons, List.drop_zero]
          repeat' (first | apply And.intro | intro _)
          any_goals (first | (refine hR33 _ ?_; clear hR33) | (first | omega | (simp only [IntKind.wrap_i64] at *; omega) | (simp_all; done) | (simp_all; omega)))
          refine runs_cut 1 fun R34 hR34 => ?_
          try simp (maxSteps := 1000000) [bookV, List.take_succ_cons, List.take_zero, List.drop_succ_cons, List.drop_zero]
          refine .inl ⟨_, hcost0, ?_⟩
          try simp (maxSteps := 1000000) [bookV]
          repeat' (first | apply And.intro | intro _)
          any_goals (first | (refine hR34 _ ?_; clear hR34) | (first | omega | (simp only [IntKind.wrap_i64] at *; omega) | (simp_all; done) | (simp_all; omega)))
          try simp (maxSteps := 1000000) [bookV, List.take_succ_cons, List.take_zero, List.drop_succ_cons, List.drop_zero]
          repeat' (first | apply And.intro | intro _)
          any_goals (first | (refine hK32 _ ?_; clear hK32) | (first | omega | (simp only [IntKind.wrap_i64] at *; omega) | (simp_all; done) | (simp_all; omega)))
          refine swp_seq fun K35 hK35 => ?_
          refine swp_region ty_ok ?_
          refine runs_cut 5 fun R36 hR36 => ?_
          try simp (maxSteps := 1000000) [bookV, List.take_succ_cons, List.take_zero, List.drop_succ_cons, List.drop_zero]
          repeat' (first | apply And.intro | intro _)
          any_goals (first | (refine hR36 _ ?_; clear hR36) | (first | omega | (simp only [IntKind.wrap_i64] at *; omega) | (simp_all; done) | (simp_all; omega)))
          refine runs_cut 1 fun R37 hR37 => ?_
          try simp (maxSteps := 1000000) [bookV, List.take_succ_cons, List.take_zero, List.drop_succ_cons, List.drop_zero]
          first | refine .inl ⟨_, fun hb => .inl ⟨reedpiperef06_Ints_ok vs vs (by omega), rfl⟩, ?_⟩ | refine .inl ⟨_, .inl ⟨reedpiperef06_Ints_ok vs vs (by omega), rfl⟩, ?_⟩ | refine .inl ⟨_, fun hb => .inl (reedpiperef06_Ints_ok vs vs (by omega)), ?_⟩ | refine .inl ⟨_, .inl (reedpiperef06_Ints_ok vs vs (by omega)), ?_⟩ | refine .inl ⟨_, by (intros; exact Or.inl (reedpiperef06_Ints_ok vs vs (by omega))), ?_⟩ | refine .inl ⟨_, by (intros; exact Or.inl ⟨reedpiperef06_Ints_ok vs vs (by omega), rfl⟩), ?_⟩ | refine .inl ⟨_, fun hb => .inl ⟨_, reedpiperef06_Ints_ok vs vs (by omega), by (try simp); exact ⟨rfl, rfl⟩⟩, ?_⟩
          repeat' (first | apply And.intro | intro _)
          any_goals (first | (refine hR37 _ ?_; clear hR37) | (first | omega | (simp only [IntKind.wrap_i64] at *; omega) | (simp_all; done) | (simp_all; omega)))
          refine runs_cut 9 fun R38 hR38 => ?_
          try simp (maxSteps := 1000000) [bookV, List.take_succ_cons, List.take_zero, List.drop_succ_cons, List.drop_zero]
          repeat' (first | apply And.intro | intro _)
          any_goals (first | (refine hR38 _ ?_; clear hR38) | (first | omega | (simp only [IntKind.wrap_i64] at *; omega) | (simp_all; done) | (simp_all; omega)))
          try simp (maxSteps := 1000000) [bookV, List.take_succ_cons, List.take_zero, List.drop_succ_cons, List.drop_zero]
          repeat' (first | apply And.intro | intro _)
          any_goals (first | (refine hK35 _ ?_; clear hK35) | (first | omega | (simp only [IntKind.wrap_i64] at *; omega) | (simp_all; done) | (simp_all; omega)))
          refine swp_if fun C39 hC39 => ?_
          try simp (maxSteps := 1000000) [bookV]
          refine hC39 _ (fun hc39 => ?_) (fun hc39 => ?_)
          · exfalso
            have h := hc39
            simp at h
          · clear hC39
            try simp at hc39
            refine swp_skip ?_
            try simp only [thn, inBlk]
            refine hK24 _ ?_; clear hK24
            refine swp_seq fun K40 hK40 => ?_
            refine swp_region ty_ok ?_
            refine runs_cut 3 fun R41 hR41 => ?_
            try simp (maxSteps := 1000000) [bookV, List.take_succ_cons, List.take_zero, List.drop_succ_cons, List.drop_zero]
            repeat' (first | apply And.intro | intro _)
            any_goals (first | (refine hR41 _ ?_; clear hR41) | (first | omega | (simp only [IntKind.wrap_i64] at *; omega) | (simp_all; done) | (simp_all; omega)))
            refine runs_cut 1 fun R42 hR42 => ?_
            try simp (maxSteps := 1000000) [bookV, List.take_succ_cons, List.take_zero, List.drop_succ_cons, List.drop_zero]
            refine .inl ⟨_, hget_ok i h1 h2 b at_ (by omega) hb hat, ?_⟩
            try simp (maxSteps := 1000000) [bookV]
            repeat' (first | apply And.intro | intro _)
            any_goals (first | (refine hR42 _ ?_; clear hR42) | (first | omega | (simp only [IntKind.wrap_i64] at *; omega) | (simp_all; done) | (simp_all; omega)))
            try simp (maxSteps := 1000000) [bookV, List.take_succ_cons, List.take_zero, List.drop_succ_cons, List.drop_zero]
            repeat' (first | apply And.intro | intro _)
            any_goals (first | (refine hK40 _ ?_; clear hK40) | (first | omega | (simp only [IntKind.wrap_i64] at *; omega) | (simp_all; done) | (simp_all; omega)))
            refine swp_seq fun K43 hK43 => ?_
            refine swp_seq fun K44 hK44 => ?_
            refine swp_region ty_ok ?_
            try simp (maxSteps := 1000000) [bookV]
            repeat' (first | apply And.intro | intro _)
            any_goals (first | (refine hK44 _ ?_; clear hK44) | (first | omega | (simp only [IntKind.wrap_i64] at *; omega) | (simp_all; done) | (simp_all; omega)))
            refine swp_if fun C45 hC45 => ?_
            try simp (maxSteps := 1000000) [bookV]
            refine hC45 _ (fun hc45 => ?_) (fun hc45 => ?_)
            · clear hC45
              try simp at hc45
              refine swp_seq fun K46 hK46 => ?_
              have z1 : hgV i b at_ = [] := if_neg hc45
              have z2 : hgP i b at_ = 0 := if_neg hc45
              refine swp_region ty_ok ?_
              try simp (maxSteps := 1000000) [bookV, z1, z2]
              repeat' (first | apply And.intro | intro _)
              any_goals (first | (refine hK46 _ ?_; clear hK46) | (first | omega | (simp only [IntKind.wrap_i64] at *; omega) | (simp_all; done) | (simp_all; omega)))
              refine swp_ret ?_
              simp [fnPost, Try.results13, resP, tupOf]
            · clear hC45
              try simp at hc45
              refine swp_skip ?_
              try simp only [thn, inBlk]
              refine hK43 _ ?_; clear hK43
              refine swp_seq fun K47 hK47 => ?_
              obtain ⟨g0, g1, n, g2, g3, g4, g5⟩ := get_got h1 h2 hb (by have h := hc45; simpa using h)
              subst g2
              have hst2 := hput_ok i h1 h2 [] _ g0 g1 (by simp)
              obtain ⟨D, hD⟩ : ∃ D, huffL i (hgV i b n) = D := ⟨_, rfl⟩
              rw [hD] at g3 g4 g5 hst2
              refine swp_region ty_ok ?_
              refine runs_cut 2 fun R48 hR48 => ?_
              try simp (maxSteps := 1000000) [bookV, List.take_succ_cons, List.take_zero, List.drop_succ_cons, List.drop_zero]
              repeat' (first | apply And.intro | intro _)
              any_goals (first | (refine hR48 _ ?_; clear hR48) | (first | omega | (simp only [IntKind.wrap_i64] at *; omega) | (simp_all; done) | (simp_all; omega)))
              refine runs_cut 1 fun R49 hR49 => ?_
              try simp (maxSteps := 1000000) [bookV, List.take_succ_cons, List.take_zero, List.drop_succ_cons, List.drop_zero]
              refine .inl ⟨_, hst2, ?_⟩
              try simp (maxSteps := 1000000) [bookV]
              repeat' (first | apply And.intro | intro _)
              any_goals (first | (refine hR49 _ ?_; clear hR49) | (first | omega | (simp only [IntKind.wrap_i64] at *; omega) | (simp_all; done) | (simp_all; omega)))
              try simp (maxSteps := 1000000) [bookV, List.take_succ_cons, List.take_zero, List.drop_succ_cons, List.drop_zero]
              repeat' (first | apply And.intro | intro _)
              any_goals (first | (refine hK47 _ ?_; clear hK47) | (first | omega | (simp only [IntKind.wrap_i64] at *; omega) | (simp_all; done) | (simp_all; omega)))
              refine swp_seq fun K50 hK50 => ?_
              refine swp_draw ty_ok mixed (ms := [0, 1, 3, 7, 15, 7, 7, 7, 231, 487, 1023, 2047, 4095]) (by kernel_rfl) ?_
              refine runD_cut 6 fun R51 hR51 => ?_
              try simp (maxSteps := 1000000) [bookV, g3, g5, Cells.sub, List.take_succ_cons, List.take_zero, List.drop_succ_cons, List.drop_zero]
              repeat' (first | apply And.intro | intro _)
              any_goals (first | (refine hR51 _ _ _ _ ?_; clear hR51) | (first | omega | (simp only [IntKind.wrap_i64] at *; omega) | (simp_all; done) | (simp_all; omega)))
              try simp (maxSteps := 1000000) [bookV, g3, g5, Cells.sub, List.take_succ_cons, List.take_zero, List.drop_succ_cons, List.drop_zero]
              repeat' (first | apply And.intro | intro _)
              any_goals (first | kernel_rfl | (refine hK50 _ ?_; clear hK50) | (first | omega | (simp only [IntKind.wrap_i64] at *; omega) | (simp_all; done) | (simp_all; omega)))
              refine swp_ret ?_
              simp [fnPost, Try.results13, resP, tupOf]
              rw [show ((n : Int) + (D.length : Int)).toNat - n = D.length by omega, g5]
        · exact absurd hc26 (by simp)

set_option maxHeartbeats 4000000 in
theorem back9_many (x : Nat) (hx : x ≤ 255) (vs be b : List Int) (at_ : Int) (hbe : ∀ y ∈ be, 0 ≤ y ∧ y ≤ 255) (hb : ∀ k : Nat, 0 ≤ b[k]?.getD 0 ∧ b[k]?.getD 0 ≤ 255) (hat : -9223372036854775808 ≤ at_ ∧ at_ ≤ 9223372036854775807) (i : Nat) (hi : x % 11 + 1 = i) (hd : ¬ vs.length = bDim i) : PCall Try.prog 13 [.int .u8 (x : Nat), .ro (.ints .i64 vs), .ro (.ints .u8 be), .ro (.ints .u8 b), .int .i64 at_] (.bool true) := by
  have h1 : 1 ≤ i := (by omega)
  have h2 : i ≤ 11 := (by omega)
  have hxw : IntKind.i64.wrap (x : Int) = x := w64 (by omega)
  have hxa : IntKind.i64.wrap ((x : Int) % 11) = (x : Int) % 11 := w64 (by omega)
  have hxb : IntKind.i64.wrap ((x : Int) % 11 + 1) = (i : Nat) := by rw [w64 (by omega)]; omega
  have hxt : (x : Int).tmod 11 = (x : Int) % 11 := tmod_nat (a := x) (b := 11) rfl
  have hE := bke h1 (by omega)
  have hB := bk_ok h1 (by omega)
  have hmany := hB.many
  have hplain := hB.plain
  have hel := hE.elen
  have hrl := hE.rlen
  have hmz : ¬ bMany i = 0 := (by omega)
  have hvb : ∀ e, ∀ v ∈ bVal i e, -60 ≤ v ∧ v ≤ 60 := fun e v hv => by have := bDg_bd hB _ _ v hv; have := hB.low; have := hB.high; omega
  have hxt : (x : Int).tmod 11 = (x : Int) % 11 := num11
  refine pcall_body ty_ok Try.func13 rfl (by rfl) (by simp) ?_
  rw [Try.ntmps13]
  refine swp_seq fun K1 hK1 => ?_
  refine swp_region ty_ok ?_
  try simp (maxSteps := 1000000) [bookV]
  repeat' (first | apply And.intro | intro _)
  any_goals (first | (refine hK1 _ ?_; clear hK1) | (first | omega | (simp only [IntKind.wrap_i64] at *; omega) | (simp_all; done) | (simp_all; omega)))
  refine swp_seq fun K2 hK2 => ?_
  refine swp_region ty_ok ?_
  refine runs_cut 1 fun R3 hR3 => ?_
  try simp (maxSteps := 1000000) [bookV, List.take_succ_cons, List.take_zero, List.drop_succ_cons, List.drop_zero]
  refine .inl ⟨_, alive9, ?_⟩
  try simp (maxSteps := 1000000) [bookV]
  repeat' (first | apply And.intro | intro _)
  any_goals (first | (refine hR3 _ ?_; clear hR3) | (first | omega | (simp only [IntKind.wrap_i64] at *; omega) | (simp_all; done) | (simp_all; omega)))
  try simp (maxSteps := 1000000) [bookV, List.take_succ_cons, List.take_zero, List.drop_succ_cons, List.drop_zero]
  repeat' (first | apply And.intro | intro _)
  any_goals (first | (refine hK2 _ ?_; clear hK2) | (first | omega | (simp only [IntKind.wrap_i64] at *; omega) | (simp_all; done) | (simp_all; omega)))
  refine swp_seq fun K4 hK4 => ?_
  refine swp_seq fun K5 hK5 => ?_
  refine swp_region ty_ok ?_
  refine runs_cut 8 fun R6 hR6 => ?_
  try simp (maxSteps := 1000000) [bookV, List.take_succ_cons, List.take_zero, List.drop_succ_cons, List.drop_zero]
  repeat' (first | apply And.intro | intro _)
  any_goals (first | (refine hR6 _ ?_; clear hR6) | (first | omega | (simp only [IntKind.wrap_i64] at *; omega) | (simp_all; done) | (simp_all; omega)))
  try simp (maxSteps := 1000000) [bookV, List.take_succ_cons, List.take_zero, List.drop_succ_cons, List.drop_zero]
  repeat' (first | apply And.intro | intro _)
  any_goals (first | (refine hK5 _ ?_; clear hK5) | (first | omega | (simp only [IntKind.wrap_i64] at *; omega) | (simp_all; done) | (simp_all; omega)))
  refine swp_if fun C7 hC7 => ?_
  try simp (maxSteps := 1000000) [bookV]
  refine hC7 _ (fun hc7 => ?_) (fun hc7 => ?_)
  · clear hC7
    try simp at hc7
    refine swp_seq fun K8 hK8 => ?_
    refine swp_region ty_ok ?_
    try simp (maxSteps := 1000000) [bookV]
    repeat' (first | apply And.intro | intro _)
    any_goals (first | (refine hK8 _ ?_; clear hK8) | (first | omega | (simp only [IntKind.wrap_i64] at *; omega) | (simp_all; done) | (simp_all; omega)))
    refine swp_ret ?_
    simp [fnPost, Try.results13, resP, tupOf]
  · clear hC7
    try simp at hc7
    refine swp_skip ?_
    try simp only [thn, inBlk]
    refine hK4 _ ?_; clear hK4
    refine swp_seq fun K9 hK9 => ?_
    refine swp_region ty_ok ?_
    refine runs_cut 4 fun R10 hR10 => ?_
    try simp (maxSteps := 1000000) [bookV, hxt, hxa, hxb, hxw, List.take_succ_cons, List.take_zero, List.drop_succ_cons, List.drop_zero]
    repeat' (first | apply And.intro | intro _)
    any_goals (first | (refine hR10 _ ?_; clear hR10) | (first | omega | (simp only [IntKind.wrap_i64] at *; omega) | (simp_all; done) | (simp_all; omega)))
    refine runs_cut 1 fun R11 hR11 => ?_
    try simp (maxSteps := 1000000) [bookV, hxt, hxa, hxb, hxw, List.take_succ_cons, List.take_zero, List.drop_succ_cons, List.drop_zero]
    refine .inl ⟨_, get_book i h1 (by omega), ?_⟩
    try simp (maxSteps := 1000000) [bookV, hxt, hxa, hxb, hxw]
    repeat' (first | apply And.intro | intro _)
    any_goals (first | (refine hR11 _ ?_; clear hR11) | (first | omega | (simp only [IntKind.wrap_i64] at *; omega) | (simp_all; done) | (simp_all; omega)))
    try simp (maxSteps := 1000000) [bookV, hxt, hxa, hxb, hxw, List.take_succ_cons, List.take_zero, List.drop_succ_cons, List.drop_zero]
    repeat' (first | apply And.intro | intro _)
    any_goals (first | (refine hK9 _ ?_; clear hK9) | (first | omega | (simp only [IntKind.wrap_i64] at *; omega) | (simp_all; done) | (simp_all; omega)))
    refine swp_seq fun K12 hK12 => ?_
    refine swp_seq fun K13 hK13 => ?_
    refine swp_region ty_ok ?_
    try simp (maxSteps := 1000000) [bookV]
    repeat' (first | apply And.intro | intro _)
    any_goals (first | (refine hK13 _ ?_; clear hK13) | (first | omega | (simp only [IntKind.wrap_i64] at *; omega) | (simp_all; done) | (simp_all; omega)))
    refine swp_if fun C14 hC14 => ?_
    try simp (maxSteps := 1000000) [bookV]
    refine hC14 _ (fun hc14 => ?_) (fun hc14 => ?_)
    · exfalso
      have h := hc14
      simp at h
    · clear hC14
      try simp at hc14
      refine swp_skip ?_
      try simp only [thn, inBlk]
      refine hK12 _ ?_; clear hK12
      refine swp_seq fun K15 hK15 => ?_
      refine swp_region ty_ok ?_
      refine runs_cut 2 fun R16 hR16 => ?_
      try simp (maxSteps := 1000000) [bookV, List.take_succ_cons, List.take_zero, List.drop_succ_cons, List.drop_zero]
      repeat' (first | apply And.intro | intro _)
      any_goals (first | (refine hR16 _ ?_; clear hR16) | (first | omega | (simp only [IntKind.wrap_i64] at *; omega) | (simp_all; done) | (simp_all; omega)))
      refine runs_cut 1 fun R17 hR17 => ?_
      try simp (maxSteps := 1000000) [bookV, List.take_succ_cons, List.take_zero, List.drop_succ_cons, List.drop_zero]
      refine .inl ⟨_, hput_many i h1 h2 [] vs hd, ?_⟩
      try simp (maxSteps := 1000000) [bookV]
      repeat' (first | apply And.intro | intro _)
      any_goals (first | (refine hR17 _ ?_; clear hR17) | (first | omega | (simp only [IntKind.wrap_i64] at *; omega) | (simp_all; done) | (simp_all; omega)))
      try simp (maxSteps := 1000000) [bookV, List.take_succ_cons, List.take_zero, List.drop_succ_cons, List.drop_zero]
      repeat' (first | apply And.intro | intro _)
      any_goals (first | (refine hK15 _ ?_; clear hK15) | (first | omega | (simp only [IntKind.wrap_i64] at *; omega) | (simp_all; done) | (simp_all; omega)))
      refine swp_seq fun K18 hK18 => ?_
      refine swp_region ty_ok ?_
      refine runs_cut 3 fun R19 hR19 => ?_
      try simp (maxSteps := 1000000) [bookV, List.take_succ_cons, List.take_zero, List.drop_succ_cons, List.drop_zero]
      repeat' (first | apply And.intro | intro _)
      any_goals (first | (refine hR19 _ ?_; clear hR19) | (first | omega | (simp only [IntKind.wrap_i64] at *; omega) | (simp_all; done) | (simp_all; omega)))
      refine runs_cut 1 fun R20 hR20 => ?_
      try simp (maxSteps := 1000000) [bookV, List.take_succ_cons, List.take_zero, List.drop_succ_cons, List.drop_zero]
      refine .inl ⟨_, fits_many i h1 h2 vs hd, ?_⟩
      try simp (maxSteps := 1000000) [bookV]
      repeat' (first | apply And.intro | intro _)
      any_goals (first | (refine hR20 _ ?_; clear hR20) | (first | omega | (simp only [IntKind.wrap_i64] at *; omega) | (simp_all; done) | (simp_all; omega)))
      try simp (maxSteps := 1000000) [bookV, List.take_succ_cons, List.take_zero, List.drop_succ_cons, List.drop_zero]
      repeat' (first | apply And.intro | intro _)
      any_goals (first | (refine hK18 _ ?_; clear hK18) | (first | omega | (simp only [IntKind.wrap_i64] at *; omega) | (simp_all; done) | (simp_all; omega)))
      refine swp_seq fun K21 hK21 => ?_
      refine swp_seq fun K22 hK22 => ?_
      refine swp_region ty_ok ?_
      try simp (maxSteps := 1000000) [bookV]
      repeat' (first | apply And.intro | intro _)
      any_goals (first | (refine hK22 _ ?_; clear hK22) | (first | omega | (simp only [IntKind.wrap_i64] at *; omega) | (simp_all; done) | (simp_all; omega)))
      refine swp_if fun C23 hC23 => ?_
      try simp (maxSteps := 1000000) [bookV]
      refine hC23 _ (fun hc23 => ?_) (fun hc23 => ?_)
      · exfalso
        have h := hc23
        simp at h
      · clear hC23
        try simp at hc23
        refine swp_skip ?_
        try simp only [thn, inBlk]
        refine hK21 _ ?_; clear hK21
        refine swp_seq fun K24 hK24 => ?_
        refine swp_seq fun K25 hK25 => ?_
        refine swp_region ty_ok ?_
        try simp (maxSteps := 1000000) [bookV]
        repeat' (first | apply And.intro | intro _)
        any_goals (first | (refine hK25 _ ?_; clear hK25) | (first | omega | (simp only [IntKind.wrap_i64] at *; omega) | (simp_all; done) | (simp_all; omega)))
        refine swp_if fun C26 hC26 => ?_
        try simp (maxSteps := 1000000) [bookV]
        refine hC26 _ (fun hc26 => ?_) (fun hc26 => ?_)
        · exact absurd hc26 (by simp)
        · clear hC26
          try simp at hc26
          refine swp_skip ?_
          try simp only [thn, inBlk]
          refine hK24 _ ?_; clear hK24
          refine swp_seq fun K27 hK27 => ?_
          refine swp_region ty_ok ?_
          refine runs_cut 3 fun R28 hR28 => ?_
          try simp (maxSteps := 1000000) [bookV, List.take_succ_cons, List.take_zero, List.drop_succ_cons, List.drop_zero]
          repeat' (first | apply And.intro | intro _)
          any_goals (first | (refine hR28 _ ?_; clear hR28) | (first | omega | (simp only [IntKind.wrap_i64] at *; omega) | (simp_all; done) | (simp_all; omega)))
          refine runs_cut 1 fun R29 hR29 => ?_
          try simp (maxSteps := 1000000) [bookV, List.take_succ_cons, List.take_zero, List.drop_succ_cons, List.drop_zero]
          refine .inl ⟨_, hget_ok i h1 h2 b at_ (by omega) hb hat, ?_⟩
          try simp (maxSteps := 1000000) [bookV]
          repeat' (first | apply And.intro | intro _)
          any_goals (first | (refine hR29 _ ?_; clear hR29) | (first | omega | (simp only [IntKind.wrap_i64] at *; omega) | (simp_all; done) | (simp_all; omega)))
          try simp (maxSteps := 1000000) [bookV, List.take_succ_cons, List.take_zero, List.drop_succ_cons, List.drop_zero]
          repeat' (first | apply And.intro | intro _)
          any_goals (first | (refine hK27 _ ?_; clear hK27) | (first | omega | (simp only [IntKind.wrap_i64] at *; omega) | (simp_all; done) | (simp_all; omega)))
          refine swp_seq fun K30 hK30 => ?_
          refine swp_seq fun K31 hK31 => ?_
          refine swp_region ty_ok ?_
          try simp (maxSteps := 1000000) [bookV]
          repeat' (first | apply And.intro | intro _)
          any_goals (first | (refine hK31 _ ?_; clear hK31) | (first | omega | (simp only [IntKind.wrap_i64] at *; omega) | (simp_all; done) | (simp_all; omega)))
          refine swp_if fun C32 hC32 => ?_
          try simp (maxSteps := 1000000) [bookV]
          refine hC32 _ (fun hc32 => ?_) (fun hc32 => ?_)
          · clear hC32
            try simp at hc32
            refine swp_seq fun K33 hK33 => ?_
            have z1 : hgV i b at_ = [] := if_neg hc32
            have z2 : hgP i b at_ = 0 := if_neg hc32
            refine swp_region ty_ok ?_
            try simp (maxSteps := 1000000) [bookV, z1, z2]
            repeat' (first | apply And.intro | intro _)
            any_goals (first | (refine hK33 _ ?_; clear hK33) | (first | omega | (simp only [IntKind.wrap_i64] at *; omega) | (simp_all; done) | (simp_all; omega)))
            refine swp_ret ?_
            simp [fnPost, Try.results13, resP, tupOf]
          · clear hC32
            try simp at hc32
            refine swp_skip ?_
            try simp only [thn, inBlk]
            refine hK30 _ ?_; clear hK30
            refine swp_seq fun K34 hK34 => ?_
            obtain ⟨g0, g1, n, g2, g3, g4, g5⟩ := get_got h1 h2 hb (by have h := hc32; simpa using h)
            subst g2
            have hst2 := hput_ok i h1 h2 [] _ g0 g1 (by simp)
            obtain ⟨D, hD⟩ : ∃ D, huffL i (hgV i b n) = D := ⟨_, rfl⟩
            rw [hD] at g3 g4 g5 hst2
            refine swp_region ty_ok ?_
            refine runs_cut 2 fun R35 hR35 => ?_
            try simp (maxSteps := 1000000) [bookV, List.take_succ_cons, List.take_zero, List.drop_succ_cons, List.drop_zero]
            repeat' (first | apply And.intro | intro _)
            any_goals (first | (refine hR35 _ ?_; clear hR35) | (first | omega | (simp only [IntKind.wrap_i64] at *; omega) | (simp_all; done) | (simp_all; omega)))
            refine runs_cut 1 fun R36 hR36 => ?_
            try simp (maxSteps := 1000000) [bookV, List.take_succ_cons, List.take_zero, List.drop_succ_cons, List.drop_zero]
            refine .inl ⟨_, hst2, ?_⟩
            try simp (maxSteps := 1000000) [bookV]
            repeat' (first | apply And.intro | intro _)
            any_goals (first | (refine hR36 _ ?_; clear hR36) | (first | omega | (simp only [IntKind.wrap_i64] at *; omega) | (simp_all; done) | (simp_all; omega)))
            try simp (maxSteps := 1000000) [bookV, List.take_succ_cons, List.take_zero, List.drop_succ_cons, List.drop_zero]
            repeat' (first | apply And.intro | intro _)
            any_goals (first | (refine hK34 _ ?_; clear hK34) | (first | omega | (simp only [IntKind.wrap_i64] at *; omega) | (simp_all; done) | (simp_all; omega)))
            refine swp_seq fun K37 hK37 => ?_
            refine swp_draw ty_ok mixed (ms := [0, 1, 3, 7, 15, 7, 7, 7, 231, 487, 1023, 2047, 4095]) (by kernel_rfl) ?_
            refine runD_cut 6 fun R38 hR38 => ?_
            try simp (maxSteps := 1000000) [bookV, g3, g5, Cells.sub, List.take_succ_cons, List.take_zero, List.drop_succ_cons, List.drop_zero]
            repeat' (first | apply And.intro | intro _)
            any_goals (first | (refine hR38 _ _ _ _ ?_; clear hR38) | (first | omega | (simp only [IntKind.wrap_i64] at *; omega) | (simp_all; done) | (simp_all; omega)))
            try simp (maxSteps := 1000000) [bookV, g3, g5, Cells.sub, List.take_succ_cons, List.take_zero, List.drop_succ_cons, List.drop_zero]
            repeat' (first | apply And.intro | intro _)
            any_goals (first | kernel_rfl | (refine hK37 _ ?_; clear hK37) | (first | omega | (simp only [IntKind.wrap_i64] at *; omega) | (simp_all; done) | (simp_all; omega)))
            refine swp_ret ?_
            simp [fnPost, Try.results13, resP, tupOf]
            rw [show ((n : Int) + (D.length : Int)).toNat - n = D.length by omega, g5]

set_option maxHeartbeats 4000000 in
theorem back9_nofit (x : Nat) (hx : x ≤ 255) (vs be b : List Int) (at_ : Int) (hbe : ∀ y ∈ be, 0 ≤ y ∧ y ≤ 255) (hb : ∀ k : Nat, 0 ≤ b[k]?.getD 0 ∧ b[k]?.getD 0 ≤ 255) (hat : -9223372036854775808 ≤ at_ ∧ at_ ≤ 9223372036854775807) (i : Nat) (hi : x % 11 + 1 = i) (hd : vs.length = bDim i) (hf : hFit i vs = false) : PCall Try.prog 13 [.int .u8 (x : Nat), .ro (.ints .i64 vs), .ro (.ints .u8 be), .ro (.ints .u8 b), .int .i64 at_] (.bool true) := by
  have h1 : 1 ≤ i := (by omega)
  have h2 : i ≤ 11 := (by omega)
  have hxw : IntKind.i64.wrap (x : Int) = x := w64 (by omega)
  have hxa : IntKind.i64.wrap ((x : Int) % 11) = (x : Int) % 11 := w64 (by omega)
  have hxb : IntKind.i64.wrap ((x : Int) % 11 + 1) = (i : Nat) := by rw [w64 (by omega)]; omega
  have hxt : (x : Int).tmod 11 = (x : Int) % 11 := tmod_nat (a := x) (b := 11) rfl
  have hE := bke h1 (by omega)
  have hB := bk_ok h1 (by omega)
  have hmany := hB.many
  have hplain := hB.plain
  have hel := hE.elen
  have hrl := hE.rlen
  have hmz : ¬ bMany i = 0 := (by omega)
  have hvb : ∀ e, ∀ v ∈ bVal i e, -60 ≤ v ∧ v ≤ 60 := fun e v hv => by have := bDg_bd hB _ _ v hv; have := hB.low; have := hB.high; omega
  have hxt : (x : Int).tmod 11 = (x : Int) % 11 := num11
  refine pcall_body ty_ok Try.func13 rfl (by rfl) (by simp) ?_
  rw [Try.ntmps13]
  refine swp_seq fun K1 hK1 => ?_
  refine swp_region ty_ok ?_
  try simp (maxSteps := 1000000) [bookV]
  repeat' (first | apply And.intro | intro _)
  any_goals (first | (refine hK1 _ ?_; clear hK1) | (first | omega | (simp only [IntKind.wrap_i64] at *; omega) | (simp_all; done) | (simp_all; omega)))
  refine swp_seq fun K2 hK2 => ?_
  refine swp_region ty_ok ?_
  refine runs_cut 1 fun R3 hR3 => ?_
  try simp (maxSteps := 1000000) [bookV, List.take_succ_cons, List.take_zero, List.drop_succ_cons, List.drop_zero]
  refine .inl ⟨_, alive9, ?_⟩
  try simp (maxSteps := 1000000) [bookV]
  repeat' (first | apply And.intro | intro _)
  any_goals (first | (refine hR3 _ ?_; clear hR3) | (first | omega | (simp only [IntKind.wrap_i64] at *; omega) | (simp_all; done) | (simp_all; omega)))
  try simp (maxSteps := 1000000) [bookV, List.take_succ_cons, List.take_zero, List.drop_succ_cons, List.drop_zero]
  repeat' (first | apply And.intro | intro _)
  any_goals (first | (refine hK2 _ ?_; clear hK2) | (first | omega | (simp only [IntKind.wrap_i64] at *; omega) | (simp_all; done) | (simp_all; omega)))
  refine swp_seq fun K4 hK4 => ?_
  refine swp_seq fun K5 hK5 => ?_
  refine swp_region ty_ok ?_
  refine runs_cut 8 fun R6 hR6 => ?_
  try simp (maxSteps := 1000000) [bookV, List.take_succ_cons, List.take_zero, List.drop_succ_cons, List.drop_zero]
  repeat' (first | apply And.intro | intro _)
  any_goals (first | (refine hR6 _ ?_; clear hR6) | (first | omega | (simp only [IntKind.wrap_i64] at *; omega) | (simp_all; done) | (simp_all; omega)))
  try simp (maxSteps := 1000000) [bookV, List.take_succ_cons, List.take_zero, List.drop_succ_cons, List.drop_zero]
  repeat' (first | apply And.intro | intro _)
  any_goals (first | (refine hK5 _ ?_; clear hK5) | (first | omega | (simp only [IntKind.wrap_i64] at *; omega) | (simp_all; done) | (simp_all; omega)))
  refine swp_if fun C7 hC7 => ?_
  try simp (maxSteps := 1000000) [bookV]
  refine hC7 _ (fun hc7 => ?_) (fun hc7 => ?_)
  · clear hC7
    try simp at hc7
    refine swp_seq fun K8 hK8 => ?_
    refine swp_region ty_ok ?_
    try simp (maxSteps := 1000000) [bookV]
    repeat' (first | apply And.intro | intro _)
    any_goals (first | (refine hK8 _ ?_; clear hK8) | (first | omega | (simp only [IntKind.wrap_i64] at *; omega) | (simp_all; done) | (simp_all; omega)))
    refine swp_ret ?_
    simp [fnPost, Try.results13, resP, tupOf]
  · clear hC7
    try simp at hc7
    refine swp_skip ?_
    try simp only [thn, inBlk]
    refine hK4 _ ?_; clear hK4
    refine swp_seq fun K9 hK9 => ?_
    refine swp_region ty_ok ?_
    refine runs_cut 4 fun R10 hR10 => ?_
    try simp (maxSteps := 1000000) [bookV, hxt, hxa, hxb, hxw, List.take_succ_cons, List.take_zero, List.drop_succ_cons, List.drop_zero]
    repeat' (first | apply And.intro | intro _)
    any_goals (first | (refine hR10 _ ?_; clear hR10) | (first | omega | (simp only [IntKind.wrap_i64] at *; omega) | (simp_all; done) | (simp_all; omega)))
    refine runs_cut 1 fun R11 hR11 => ?_
    try simp (maxSteps := 1000000) [bookV, hxt, hxa, hxb, hxw, List.take_succ_cons, List.take_zero, List.drop_succ_cons, List.drop_zero]
    refine .inl ⟨_, get_book i h1 (by omega), ?_⟩
    try simp (maxSteps := 1000000) [bookV, hxt, hxa, hxb, hxw]
    repeat' (first | apply And.intro | intro _)
    any_goals (first | (refine hR11 _ ?_; clear hR11) | (first | omega | (simp only [IntKind.wrap_i64] at *; omega) | (simp_all; done) | (simp_all; omega)))
    try simp (maxSteps := 1000000) [bookV, hxt, hxa, hxb, hxw, List.take_succ_cons, List.take_zero, List.drop_succ_cons, List.drop_zero]
    repeat' (first | apply And.intro | intro _)
    any_goals (first | (refine hK9 _ ?_; clear hK9) | (first | omega | (simp only [IntKind.wrap_i64] at *; omega) | (simp_all; done) | (simp_all; omega)))
    refine swp_seq fun K12 hK12 => ?_
    refine swp_seq fun K13 hK13 => ?_
    refine swp_region ty_ok ?_
    try simp (maxSteps := 1000000) [bookV]
    repeat' (first | apply And.intro | intro _)
    any_goals (first | (refine hK13 _ ?_; clear hK13) | (first | omega | (simp only [IntKind.wrap_i64] at *; omega) | (simp_all; done) | (simp_all; omega)))
    refine swp_if fun C14 hC14 => ?_
    try simp (maxSteps := 1000000) [bookV]
    refine hC14 _ (fun hc14 => ?_) (fun hc14 => ?_)
    · exfalso
      have h := hc14
      simp at h
    · clear hC14
      try simp at hc14
      refine swp_skip ?_
      try simp only [thn, inBlk]
      refine hK12 _ ?_; clear hK12
      refine swp_seq fun K15 hK15 => ?_
      refine swp_region ty_ok ?_
      refine runs_cut 2 fun R16 hR16 => ?_
      try simp (maxSteps := 1000000) [bookV, List.take_succ_cons, List.take_zero, List.drop_succ_cons, List.drop_zero]
      repeat' (first | apply And.intro | intro _)
      any_goals (first | (refine hR16 _ ?_; clear hR16) | (first | omega | (simp only [IntKind.wrap_i64] at *; omega) | (simp_all; done) | (simp_all; omega)))
      refine runs_cut 1 fun R17 hR17 => ?_
      try simp (maxSteps := 1000000) [bookV, List.take_succ_cons, List.take_zero, List.drop_succ_cons, List.drop_zero]
      refine .inl ⟨_, hput_nofit i h1 h2 [] vs hd hf, ?_⟩
      try simp (maxSteps := 1000000) [bookV]
      repeat' (first | apply And.intro | intro _)
      any_goals (first | (refine hR17 _ ?_; clear hR17) | (first | omega | (simp only [IntKind.wrap_i64] at *; omega) | (simp_all; done) | (simp_all; omega)))
      try simp (maxSteps := 1000000) [bookV, List.take_succ_cons, List.take_zero, List.drop_succ_cons, List.drop_zero]
      repeat' (first | apply And.intro | intro _)
      any_goals (first | (refine hK15 _ ?_; clear hK15) | (first | omega | (simp only [IntKind.wrap_i64] at *; omega) | (simp_all; done) | (simp_all; omega)))
      refine swp_seq fun K18 hK18 => ?_
      refine swp_region ty_ok ?_
      refine runs_cut 3 fun R19 hR19 => ?_
      try simp (maxSteps := 1000000) [bookV, List.take_succ_cons, List.take_zero, List.drop_succ_cons, List.drop_zero]
      repeat' (first | apply And.intro | intro _)
      any_goals (first | (refine hR19 _ ?_; clear hR19) | (first | omega | (simp only [IntKind.wrap_i64] at *; omega) | (simp_all; done) | (simp_all; omega)))
      refine runs_cut 1 fun R20 hR20 => ?_
      try simp (maxSteps := 1000000) [bookV, List.take_succ_cons, List.take_zero, List.drop_succ_cons, List.drop_zero]
      refine .inl ⟨_, fits_ok i h1 h2 vs hd, ?_⟩
      try simp (maxSteps := 1000000) [bookV]
      repeat' (first | apply And.intro | intro _)
      any_goals (first | (refine hR20 _ ?_; clear hR20) | (first | omega | (simp only [IntKind.wrap_i64] at *; omega) | (simp_all; done) | (simp_all; omega)))
      try simp (maxSteps := 1000000) [bookV, List.take_succ_cons, List.take_zero, List.drop_succ_cons, List.drop_zero]
      repeat' (first | apply And.intro | intro _)
      any_goals (first | (refine hK18 _ ?_; clear hK18) | (first | omega | (simp only [IntKind.wrap_i64] at *; omega) | (simp_all; done) | (simp_all; omega)))
      refine swp_seq fun K21 hK21 => ?_
      refine swp_seq fun K22 hK22 => ?_
      refine swp_region ty_ok ?_
      try simp (maxSteps := 1000000) [bookV]
      repeat' (first | apply And.intro | intro _)
      any_goals (first | (refine hK22 _ ?_; clear hK22) | (first | omega | (simp only [IntKind.wrap_i64] at *; omega) | (simp_all; done) | (simp_all; omega)))
      refine swp_if fun C23 hC23 => ?_
      try simp (maxSteps := 1000000) [bookV]
      refine hC23 _ (fun hc23 => ?_) (fun hc23 => ?_)
      · exfalso
        have h := hc23
        simp [hf] at h
      · clear hC23
        try simp at hc23
        refine swp_skip ?_
        try simp only [thn, inBlk]
        refine hK21 _ ?_; clear hK21
        refine swp_seq fun K24 hK24 => ?_
        refine swp_seq fun K25 hK25 => ?_
        refine swp_region ty_ok ?_
        try simp (maxSteps := 1000000) [bookV]
        repeat' (first | apply And.intro | intro _)
        any_goals (first | (refine hK25 _ ?_; clear hK25) | (first | omega | (simp only [IntKind.wrap_i64] at *; omega) | (simp_all; done) | (simp_all; omega)))
        refine swp_if fun C26 hC26 => ?_
        try simp (maxSteps := 1000000) [bookV]
        refine hC26 _ (fun hc26 => ?_) (fun hc26 => ?_)
        · exact absurd hc26 (by simp)
        · clear hC26
          try simp at hc26
          refine swp_skip ?_
          try simp only [thn, inBlk]
          refine hK24 _ ?_; clear hK24
          refine swp_seq fun K27 hK27 => ?_
          refine swp_region ty_ok ?_
          refine runs_cut 3 fun R28 hR28 => ?_
          try simp (maxSteps := 1000000) [bookV, List.take_succ_cons, List.take_zero, List.drop_succ_cons, List.drop_zero]
          repeat' (first | apply And.intro | intro _)
          any_goals (first | (refine hR28 _ ?_; clear hR28) | (first | omega | (simp only [IntKind.wrap_i64] at *; omega) | (simp_all; done) | (simp_all; omega)))
          refine runs_cut 1 fun R29 hR29 => ?_
          try simp (maxSteps := 1000000) [bookV, List.take_succ_cons, List.take_zero, List.drop_succ_cons, List.drop_zero]
          refine .inl ⟨_, hget_ok i h1 h2 b at_ (by omega) hb hat, ?_⟩
          try simp (maxSteps := 1000000) [bookV]
          repeat' (first | apply And.intro | intro _)
          any_goals (first | (refine hR29 _ ?_; clear hR29) | (first | omega | (simp only [IntKind.wrap_i64] at *; omega) | (simp_all; done) | (simp_all; omega)))
          try simp (maxSteps := 1000000) [bookV, List.take_succ_cons, List.take_zero, List.drop_succ_cons, List.drop_zero]
          repeat' (first | apply And.intro | intro _)
          any_goals (first | (refine hK27 _ ?_; clear hK27) | (first | omega | (simp only [IntKind.wrap_i64] at *; omega) | (simp_all; done) | (simp_all; omega)))
          refine swp_seq fun K30 hK30 => ?_
          refine swp_seq fun K31 hK31 => ?_
          refine swp_region ty_ok ?_
          try simp (maxSteps := 1000000) [bookV]
          repeat' (first | apply And.intro | intro _)
          any_goals (first | (refine hK31 _ ?_; clear hK31) | (first | omega | (simp only [IntKind.wrap_i64] at *; omega) | (simp_all; done) | (simp_all; omega)))
          refine swp_if fun C32 hC32 => ?_
          try simp (maxSteps := 1000000) [bookV]
          refine hC32 _ (fun hc32 => ?_) (fun hc32 => ?_)
          · clear hC32
            try simp at hc32
            refine swp_seq fun K33 hK33 => ?_
            have z1 : hgV i b at_ = [] := if_neg hc32
            have z2 : hgP i b at_ = 0 := if_neg hc32
            refine swp_region ty_ok ?_
            try simp (maxSteps := 1000000) [bookV, z1, z2]
            repeat' (first | apply And.intro | intro _)
            any_goals (first | (refine hK33 _ ?_; clear hK33) | (first | omega | (simp only [IntKind.wrap_i64] at *; omega) | (simp_all; done) | (simp_all; omega)))
            refine swp_ret ?_
            simp [fnPost, Try.results13, resP, tupOf]
          · clear hC32
            try simp at hc32
            refine swp_skip ?_
            try simp only [thn, inBlk]
            refine hK30 _ ?_; clear hK30
            refine swp_seq fun K34 hK34 => ?_
            obtain ⟨g0, g1, n, g2, g3, g4, g5⟩ := get_got h1 h2 hb (by have h := hc32; simpa using h)
            subst g2
            have hst2 := hput_ok i h1 h2 [] _ g0 g1 (by simp)
            obtain ⟨D, hD⟩ : ∃ D, huffL i (hgV i b n) = D := ⟨_, rfl⟩
            rw [hD] at g3 g4 g5 hst2
            refine swp_region ty_ok ?_
            refine runs_cut 2 fun R35 hR35 => ?_
            try simp (maxSteps := 1000000) [bookV, List.take_succ_cons, List.take_zero, List.drop_succ_cons, List.drop_zero]
            repeat' (first | apply And.intro | intro _)
            any_goals (first | (refine hR35 _ ?_; clear hR35) | (first | omega | (simp only [IntKind.wrap_i64] at *; omega) | (simp_all; done) | (simp_all; omega)))
            refine runs_cut 1 fun R36 hR36 => ?_
            try simp (maxSteps := 1000000) [bookV, List.take_succ_cons, List.take_zero, List.drop_succ_cons, List.drop_zero]
            refine .inl ⟨_, hst2, ?_⟩
            try simp (maxSteps := 1000000) [bookV]
            repeat' (first | apply And.intro | intro _)
            any_goals (first | (refine hR36 _ ?_; clear hR36) | (first | omega | (simp only [IntKind.wrap_i64] at *; omega) | (simp_all; done) | (simp_all; omega)))
            try simp (maxSteps := 1000000) [bookV, List.take_succ_cons, List.take_zero, List.drop_succ_cons, List.drop_zero]
            repeat' (first | apply And.intro | intro _)
            any_goals (first | (refine hK34 _ ?_; clear hK34) | (first | omega | (simp only [IntKind.wrap_i64] at *; omega) | (simp_all; done) | (simp_all; omega)))
            refine swp_seq fun K37 hK37 => ?_
            refine swp_draw ty_ok mixed (ms := [0, 1, 3, 7, 15, 7, 7, 7, 231, 487, 1023, 2047, 4095]) (by kernel_rfl) ?_
            refine runD_cut 6 fun R38 hR38 => ?_
            try simp (maxSteps := 1000000) [bookV, g3, g5, Cells.sub, List.take_succ_cons, List.take_zero, List.drop_succ_cons, List.drop_zero]
            repeat' (first | apply And.intro | intro _)
            any_goals (first | (refine hR38 _ _ _ _ ?_; clear hR38) | (first | omega | (simp only [IntKind.wrap_i64] at *; omega) | (simp_all; done) | (simp_all; omega)))
            try simp (maxSteps := 1000000) [bookV, g3, g5, Cells.sub, List.take_succ_cons, List.take_zero, List.drop_succ_cons, List.drop_zero]
            repeat' (first | apply And.intro | intro _)
            any_goals (first | kernel_rfl | (refine hK37 _ ?_; clear hK37) | (first | omega | (simp only [IntKind.wrap_i64] at *; omega) | (simp_all; done) | (simp_all; omega)))
            refine swp_ret ?_
            simp [fnPost, Try.results13, resP, tupOf]
            rw [show ((n : Int) + (D.length : Int)).toNat - n = D.length by omega, g5]

end Go.Proofs.Ytgheplondkoedaa

