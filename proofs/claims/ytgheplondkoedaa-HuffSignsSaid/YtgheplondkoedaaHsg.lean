import Derived.Test.YtgheplondkoedaaWf
import Derived.Test.YtgheplondkoedaaTyh
import Derived.Test.YtgheplondkoedaaBkq
import Derived.Test.YtgheplondkoedaaHsrt
import Derived.Test.YtgheplondkoedaaHbk
import Derived.Test.YtgheplondkoedaaHbk2
import Derived.Test.YtgheplondkoedaaHbk3
import Derived.Test.YtgheplondkoedaaHbits
import Derived.Test.YtgheplondkoedaaHrd
import Derived.Test.YtgheplondkoedaaHrdq
import Derived.Test.YtgheplondkoedaaHbits2
import Derived.Test.YtgheplondkoedaaHbk4
import Derived.Test.YtgheplondkoedaaHbk5
import Derived.Test.YtgheplondkoedaaHbk6
import Derived.Test.YtgheplondkoedaaHbk8
import Derived.Test.YtgheplondkoedaaHbk9
import Derived.Test.YtgheplondkoedaaHgrow
import Derived.Test.YtgheplondkoedaaHst
import Derived.Test.YtgheplondkoedaaHrep
import Derived.Test.YtgheplondkoedaaHputh
import Derived.Test.YtgheplondkoedaaHft
import Derived.Test.YtgheplondkoedaaHpt
namespace Go.Proofs.Ytgheplondkoedaa
set_option linter.unusedVariables false
set_option linter.unusedSimpArgs false
set_option maxRecDepth 10000
open Go Go.Pv

open Go.RowKit
def rkE (i e : Nat) : Nat := (bRk i)[e]?.getD 0
/-- The bits of values that fit. -/
def huffL (i : Nat) (vs : List Int) : List Int := if hSig i = true then codeL (bPlain i) (rkE i (entN i vs)) else codeL (bPlain i) (rkE i (entN i (hTold i vs))) ++ hSg vs ++ hEs i vs
theorem code_len {i e : Nat} (h1 : 1 ≤ i) (h2 : i ≤ 12) (he : e < bMany i) : 1 ≤ (codeL (bPlain i) (rkE i e)).length ∧ (codeL (bPlain i) (rkE i e)).length ≤ 100 := by
  have hB := bk_ok h1 h2
  have hE := bke h1 h2
  have hm := hB.many
  have hp := hB.plain
  have hr := (hE.ra he).2
  have f := (codeF (p := bPlain i) (r := rkE i e) hp (by unfold rkE; omega)).m
  rw [codeL_len]
  omega
def tv (v : Int) : Int := IntKind.i64.wrap (-v)
theorem tv_small {v : Int} (h : -8191 ≤ v ∧ v ≤ 8191) : tv v = -v := w64 (by omega)
theorem tv_fit {i : Nat} (h1 : 1 ≤ i) (h2 : i ≤ 11) {v : Int} (hv : -9223372036854775808 ≤ v ∧ v ≤ 9223372036854775807) : fitV i (tv v) = fitV i v := by
  have hm := (hkF h1 h2).m
  unfold fitV
  rw [decide_eq_decide]
  unfold tv
  by_cases hx : v = -9223372036854775808
  · subst hx
    have : IntKind.i64.wrap (-(-9223372036854775808)) = -9223372036854775808 := by decide
    rw [this]
  · rw [w64 (by omega)]
    omega
theorem hfit_tv {i : Nat} (h1 : 1 ≤ i) (h2 : i ≤ 11) {vs : List Int} (hv : ∀ v ∈ vs, -9223372036854775808 ≤ v ∧ v ≤ 9223372036854775807) : hFit i (vs.map tv) = hFit i vs := by
  unfold hFit
  rw [List.all_map]
  refine Bool.eq_iff_iff.2 ⟨fun h => List.all_eq_true.2 fun v hm => ?_, fun h => List.all_eq_true.2 fun v hm => ?_⟩
  · have := List.all_eq_true.1 h v hm
    rw [← tv_fit h1 h2 (hv v hm)]
    exact this
  · show fitV i (tv v) = true
    rw [tv_fit h1 h2 (hv v hm)]
    exact List.all_eq_true.1 h v hm
theorem huffL_tv {i : Nat} (h1 : 1 ≤ i) (h2 : i ≤ 11) {vs : List Int} (hf : hFit i vs = true) (hs : hSig i = false) : (huffL i (vs.map tv)).length = (huffL i vs).length := by
  have hb : ∀ v ∈ vs, -8191 ≤ v ∧ v ≤ 8191 := fun v hv => (fit_bd h1 h2 hf hv).2.2
  have e1 : hTold i (vs.map tv) = hTold i vs := by
    unfold hTold
    rw [List.map_map]
    refine List.map_congr_left fun v hv => ?_
    show hT1 i (tv v) = hT1 i v
    rw [tv_small (hb v hv)]
    unfold hT1
    rw [Int.natAbs_neg]
  have key : ∀ l : List Int, (∀ v ∈ l, -8191 ≤ v ∧ v ≤ 8191) → (hSg (l.map tv)).length = (hSg l).length ∧ hEs i (l.map tv) = hEs i l := by
    intro l
    induction l with
    | nil => intro _; exact ⟨rfl, rfl⟩
    | cons v r ih =>
      intro h
      obtain ⟨a, b⟩ := ih fun w hw => h w (by simp [hw])
      have ht := tv_small (h v (by simp))
      constructor
      · show (hS1 (tv v) ++ hSg (r.map tv)).length = (hS1 v ++ hSg r).length
        rw [List.length_append, List.length_append, a, ht]
        congr 1
        unfold hS1
        by_cases h0 : v = 0
        · rw [if_pos h0, if_pos (by omega)]
        · rw [if_neg h0, if_neg (by omega)]; rfl
      · show hE1 i (tv v) ++ hEs i (r.map tv) = hE1 i v ++ hEs i r
        rw [b, ht]
        unfold hE1 hM
        rw [Int.natAbs_neg]
  obtain ⟨a, b⟩ := key vs hb
  have hn : ¬ hSig i = true := by rw [hs]; simp
  unfold huffL
  rw [if_neg hn, if_neg hn, e1, b]
  simp only [List.length_append]
  rw [a]
theorem num11 {x : Nat} : (x : Int).tmod 11 = (x : Int) % 11 := tmod_nat (a := x) (b := 11) rfl
theorem hput_ok (i : Nat) (h1 : 1 ≤ i) (h2 : i ≤ 11) (b vs : List Int) (hd : vs.length = bDim i) (hf : hFit i vs = true) (hb : b.length ≤ 1000000) : PCall Try.prog 15 [.ro (.ints .u8 b), bookV i, .ro (.ints .i64 vs)] (.tup [.ro (.ints .u8 (b ++ huffL i vs)), .int .i64 0]) := by
  unfold huffL
  cases hs : hSig i with
  | true =>
    rw [if_pos rfl]
    have he := (sig_ent h1 h2 hd hf hs).2.2
    exact putS_ok i h1 h2 _ _ _ b vs _ 0 hd hf (code_ok i h1 (by omega) _ he) rfl (code_len h1 (by omega) he) hb hs
  | false =>
    rw [if_neg (by simp)]
    have he := (told_ent h1 h2 hd hf hs).2.2
    have hc := code_ok i h1 (by omega) _ he
    have hl := code_len h1 (by omega : i ≤ 12) he
    rw [← List.append_assoc, ← List.append_assoc]
    by_cases h11 : i = 11
    · exact putU_ok_e i h1 h2 _ _ _ b vs _ 0 hd hf hc rfl hl hb hs h11
    · exact putU_ok_n i h1 h2 _ _ _ b vs _ 0 hd hf hc rfl hl hb hs h11
attribute [local simp] runs gd step1 need evu un opnds opv ev cst cst1 cstL getT getH putT onL nxt argT cellsOf PV.one thn inBlk jmp fldP ldP ldC live Cells.len Cells.get Cells.w sug ldv bin eqF eq1 ops2 sh2 binv Tk.agg stC apC rdS apS cpC cpS mvL zp argsP idx fillP toInts chunks mkC ixS ixA oidx slP sl0 slA optL List.append mxF bltn frzA frz frzL frz1 pur1 Cells.pur PV.scal scal1 runD rdO PV.ids id1 zids ety Eff.on cnd minb and1b ifmax ifmin mxv sugI strv w0 w1 w2 wm1
theorem hput_many (i : Nat) (h1 : 1 ≤ i) (h2 : i ≤ 11) (b vs : List Int) (hd : ¬ vs.length = bDim i) : PCall Try.prog 15 [.ro (.ints .u8 b), bookV i, .ro (.ints .i64 vs)] (.tup [.ro (.ints .u8 []), .int .i64 4]) := by
  refine pcall_body ty_ok Try.func15 rfl (by rfl) (by simp) ?_
  rw [Try.ntmps15]
  refine swp_seq fun K1 hK1 => ?_
  refine swp_region ty_ok ?_
  try simp (maxSteps := 1000000) [bookV]
  repeat' (first | apply And.intro | intro _)
  any_goals (first | (refine hK1 _ ?_; clear hK1) | (first | omega | (simp only [IntKind.wrap_i64] at *; omega) | (simp_all; done) | (simp_all; omega)))
  refine swp_seq fun K2 hK2 => ?_
  refine swp_region ty_ok ?_
  refine runs_cut 3 fun R3 hR3 => ?_
  try simp (maxSteps := 1000000) [bookV, List.take_succ_cons, List.take_zero, List.drop_succ_cons, List.drop_zero]
  repeat' (first | apply And.intro | intro _)
  any_goals (first | (refine hR3 _ ?_; clear hR3) | (first | omega | (simp only [IntKind.wrap_i64] at *; omega) | (simp_all; done) | (simp_all; omega)))
  refine runs_cut 1 fun R4 hR4 => ?_
  try simp (maxSteps := 1000000) [bookV, List.take_succ_cons, List.take_zero, List.drop_succ_cons, List.drop_zero]
  refine .inl ⟨_, fits_many i h1 h2 vs hd, ?_⟩
  try simp (maxSteps := 1000000) [bookV]
  repeat' (first | apply And.intro | intro _)
  any_goals (first | (refine hR4 _ ?_; clear hR4) | (first | omega | (simp only [IntKind.wrap_i64] at *; omega) | (simp_all; done) | (simp_all; omega)))
  try simp (maxSteps := 1000000) [bookV, List.take_succ_cons, List.take_zero, List.drop_succ_cons, List.drop_zero]
  repeat' (first | apply And.intro | intro _)
  any_goals (first | (refine hK2 _ ?_; clear hK2) | (first | omega | (simp only [IntKind.wrap_i64] at *; omega) | (simp_all; done) | (simp_all; omega)))
  refine swp_seq fun K5 hK5 => ?_
  refine swp_seq fun K6 hK6 => ?_
  refine swp_region ty_ok ?_
  try simp (maxSteps := 1000000) [bookV]
  repeat' (first | apply And.intro | intro _)
  any_goals (first | (refine hK6 _ ?_; clear hK6) | (first | omega | (simp only [IntKind.wrap_i64] at *; omega) | (simp_all; done) | (simp_all; omega)))
  refine swp_if fun C7 hC7 => ?_
  try simp (maxSteps := 1000000) [bookV]
  refine hC7 _ (fun hc7 => ?_) (fun hc7 => ?_)
  · clear hC7
    try simp at hc7
    refine swp_seq fun K8 hK8 => ?_
    refine swp_seq fun K9 hK9 => ?_
    refine swp_region ty_ok ?_
    refine runs_cut 1 fun R10 hR10 => ?_
    try simp (maxSteps := 1000000) [bookV, List.take_succ_cons, List.take_zero, List.drop_succ_cons, List.drop_zero]
    repeat' (first | apply And.intro | intro _)
    any_goals (first | (refine hR10 _ ?_; clear hR10) | (first | omega | (simp only [IntKind.wrap_i64] at *; omega) | (simp_all; done) | (simp_all; omega)))
    refine runs_cut 1 fun R11 hR11 => ?_
    try simp (maxSteps := 1000000) [bookV, List.take_succ_cons, List.take_zero, List.drop_succ_cons, List.drop_zero]
    refine .inl ⟨_, checked_ok i h1 h2, ?_⟩
    try simp (maxSteps := 1000000) [bookV]
    repeat' (first | apply And.intro | intro _)
    any_goals (first | (refine hR11 _ ?_; clear hR11) | (first | omega | (simp only [IntKind.wrap_i64] at *; omega) | (simp_all; done) | (simp_all; omega)))
    try simp (maxSteps := 1000000) [bookV, List.take_succ_cons, List.take_zero, List.drop_succ_cons, List.drop_zero]
    repeat' (first | apply And.intro | intro _)
    any_goals (first | (refine hK9 _ ?_; clear hK9) | (first | omega | (simp only [IntKind.wrap_i64] at *; omega) | (simp_all; done) | (simp_all; omega)))
    refine swp_seq fun K12 hK12 => ?_
    refine swp_region ty_ok ?_
    try simp (maxSteps := 1000000) [bookV]
    repeat' (first | apply And.intro | intro _)
    any_goals (first | (refine hK12 _ ?_; clear hK12) | (first | omega | (simp only [IntKind.wrap_i64] at *; omega) | (simp_all; done) | (simp_all; omega)))
    refine swp_if fun C13 hC13 => ?_
    try simp (maxSteps := 1000000) [bookV]
    refine hC13 _ (fun hc13 => ?_) (fun hc13 => ?_)
    · exact absurd hc13 (by simp)
    · clear hC13
      try simp at hc13
      refine swp_skip ?_
      try simp only [thn, inBlk]
      refine hK8 _ ?_; clear hK8
      refine swp_seq fun K14 hK14 => ?_
      refine swp_region ty_ok ?_
      try simp (maxSteps := 1000000) [bookV]
      repeat' (first | apply And.intro | intro _)
      any_goals (first | (refine hK14 _ ?_; clear hK14) | (first | omega | (simp only [IntKind.wrap_i64] at *; omega) | (simp_all; done) | (simp_all; omega)))
      refine swp_ret ?_
      simp [fnPost, Try.results15, resP, tupOf]
  · exact absurd hc7 (by simp)

theorem hput_nofit (i : Nat) (h1 : 1 ≤ i) (h2 : i ≤ 11) (b vs : List Int) (hd : vs.length = bDim i) (hf : hFit i vs = false) : PCall Try.prog 15 [.ro (.ints .u8 b), bookV i, .ro (.ints .i64 vs)] (.tup [.ro (.ints .u8 []), .int .i64 2]) := by
  refine pcall_body ty_ok Try.func15 rfl (by rfl) (by simp) ?_
  rw [Try.ntmps15]
  refine swp_seq fun K1 hK1 => ?_
  refine swp_region ty_ok ?_
  try simp (maxSteps := 1000000) [bookV]
  repeat' (first | apply And.intro | intro _)
  any_goals (first | (refine hK1 _ ?_; clear hK1) | (first | omega | (simp only [IntKind.wrap_i64] at *; omega) | (simp_all; done) | (simp_all; omega)))
  refine swp_seq fun K2 hK2 => ?_
  refine swp_region ty_ok ?_
  refine runs_cut 3 fun R3 hR3 => ?_
  try simp (maxSteps := 1000000) [bookV, List.take_succ_cons, List.take_zero, List.drop_succ_cons, List.drop_zero]
  repeat' (first | apply And.intro | intro _)
  any_goals (first | (refine hR3 _ ?_; clear hR3) | (first | omega | (simp only [IntKind.wrap_i64] at *; omega) | (simp_all; done) | (simp_all; omega)))
  refine runs_cut 1 fun R4 hR4 => ?_
  try simp (maxSteps := 1000000) [bookV, List.take_succ_cons, List.take_zero, List.drop_succ_cons, List.drop_zero]
  refine .inl ⟨_, fits_ok i h1 h2 vs hd, ?_⟩
  try simp (maxSteps := 1000000) [bookV]
  repeat' (first | apply And.intro | intro _)
  any_goals (first | (refine hR4 _ ?_; clear hR4) | (first | omega | (simp only [IntKind.wrap_i64] at *; omega) | (simp_all; done) | (simp_all; omega)))
  try simp (maxSteps := 1000000) [bookV, List.take_succ_cons, List.take_zero, List.drop_succ_cons, List.drop_zero]
  repeat' (first | apply And.intro | intro _)
  any_goals (first | (refine hK2 _ ?_; clear hK2) | (first | omega | (simp only [IntKind.wrap_i64] at *; omega) | (simp_all; done) | (simp_all; omega)))
  refine swp_seq fun K5 hK5 => ?_
  refine swp_seq fun K6 hK6 => ?_
  refine swp_region ty_ok ?_
  try simp (maxSteps := 1000000) [bookV, hf]
  repeat' (first | apply And.intro | intro _)
  any_goals (first | (refine hK6 _ ?_; clear hK6) | (first | omega | (simp only [IntKind.wrap_i64] at *; omega) | (simp_all; done) | (simp_all; omega)))
  refine swp_if fun C7 hC7 => ?_
  try simp (maxSteps := 1000000) [bookV, hf]
  refine hC7 _ (fun hc7 => ?_) (fun hc7 => ?_)
  · clear hC7
    try simp at hc7
    refine swp_seq fun K8 hK8 => ?_
    refine swp_seq fun K9 hK9 => ?_
    refine swp_region ty_ok ?_
    refine runs_cut 1 fun R10 hR10 => ?_
    try simp (maxSteps := 1000000) [bookV, List.take_succ_cons, List.take_zero, List.drop_succ_cons, List.drop_zero]
    repeat' (first | apply And.intro | intro _)
    any_goals (first | (refine hR10 _ ?_; clear hR10) | (first | omega | (simp only [IntKind.wrap_i64] at *; omega) | (simp_all; done) | (simp_all; omega)))
    refine runs_cut 1 fun R11 hR11 => ?_
    try simp (maxSteps := 1000000) [bookV, List.take_succ_cons, List.take_zero, List.drop_succ_cons, List.drop_zero]
    refine .inl ⟨_, checked_ok i h1 h2, ?_⟩
    try simp (maxSteps := 1000000) [bookV]
    repeat' (first | apply And.intro | intro _)
    any_goals (first | (refine hR11 _ ?_; clear hR11) | (first | omega | (simp only [IntKind.wrap_i64] at *; omega) | (simp_all; done) | (simp_all; omega)))
    try simp (maxSteps := 1000000) [bookV, List.take_succ_cons, List.take_zero, List.drop_succ_cons, List.drop_zero]
    repeat' (first | apply And.intro | intro _)
    any_goals (first | (refine hK9 _ ?_; clear hK9) | (first | omega | (simp only [IntKind.wrap_i64] at *; omega) | (simp_all; done) | (simp_all; omega)))
    refine swp_seq fun K12 hK12 => ?_
    refine swp_region ty_ok ?_
    try simp (maxSteps := 1000000) [bookV]
    repeat' (first | apply And.intro | intro _)
    any_goals (first | (refine hK12 _ ?_; clear hK12) | (first | omega | (simp only [IntKind.wrap_i64] at *; omega) | (simp_all; done) | (simp_all; omega)))
    refine swp_if fun C13 hC13 => ?_
    try simp (maxSteps := 1000000) [bookV]
    refine hC13 _ (fun hc13 => ?_) (fun hc13 => ?_)
    · exact absurd hc13 (by simp [hf])
    · clear hC13
      try simp at hc13
      refine swp_skip ?_
      try simp only [thn, inBlk]
      refine hK8 _ ?_; clear hK8
      refine swp_seq fun K14 hK14 => ?_
      refine swp_region ty_ok ?_
      try simp (maxSteps := 1000000) [bookV]
      repeat' (first | apply And.intro | intro _)
      any_goals (first | (refine hK14 _ ?_; clear hK14) | (first | omega | (simp only [IntKind.wrap_i64] at *; omega) | (simp_all; done) | (simp_all; omega)))
      refine swp_ret ?_
      simp [fnPost, Try.results15, resP, tupOf]
  · exact absurd hc7 (by simp [hf])

theorem cost_ok (id p : Int) (es rs vs x : List Int) (e : Int) (hx : x.length ≤ 140737488355328) (hput : PCall Try.prog 15 [.ro (.ints .u8 []), .agg [.int .i64 id, .int .i64 p, .ro (.ints .i64 es), .ro (.ints .i64 rs)], .ro (.ints .i64 vs)] (.tup [.ro (.ints .u8 x), .int .i64 e])) : PCall Try.prog 19 [.agg [.int .i64 id, .int .i64 p, .ro (.ints .i64 es), .ro (.ints .i64 rs)], .ro (.ints .i64 vs)] (.tup [.int .i64 x.length, .int .i64 e]) := by
  refine pcall_body ty_ok Try.func19 rfl (by rfl) (by simp) ?_
  rw [Try.ntmps19]
  refine swp_seq fun K1 hK1 => ?_
  refine swp_region ty_ok ?_
  try simp (maxSteps := 1000000)
  repeat' (first | apply And.intro | intro _)
  any_goals (first | (refine hK1 _ ?_; clear hK1) | (first | omega | (simp only [IntKind.wrap_i64] at *; omega) | (simp_all; done) | (simp_all; omega)))
  refine swp_seq fun K2 hK2 => ?_
  refine swp_region ty_ok ?_
  refine runs_cut 2 fun R3 hR3 => ?_
  try simp (maxSteps := 1000000) [List.take_succ_cons, List.take_zero, List.drop_succ_cons, List.drop_zero]
  repeat' (first | apply And.intro | intro _)
  any_goals (first | (refine hR3 _ ?_; clear hR3) | (first | omega | (simp only [IntKind.wrap_i64] at *; omega) | (simp_all; done) | (simp_all; omega)))
  refine runs_cut 1 fun R4 hR4 => ?_
  try simp (maxSteps := 1000000) [List.take_succ_cons, List.take_zero, List.drop_succ_cons, List.drop_zero]
  refine .inl ⟨_, hput, ?_⟩
  try simp (maxSteps := 1000000)
  repeat' (first | apply And.intro | intro _)
  any_goals (first | (refine hR4 _ ?_; clear hR4) | (first | omega | (simp only [IntKind.wrap_i64] at *; omega) | (simp_all; done) | (simp_all; omega)))
  try simp (maxSteps := 1000000) [List.take_succ_cons, List.take_zero, List.drop_succ_cons, List.drop_zero]
  repeat' (first | apply And.intro | intro _)
  any_goals (first | (refine hK2 _ ?_; clear hK2) | (first | omega | (simp only [IntKind.wrap_i64] at *; omega) | (simp_all; done) | (simp_all; omega)))
  refine swp_seq fun K5 hK5 => ?_
  refine swp_region ty_ok ?_
  try simp (maxSteps := 1000000)
  repeat' (first | apply And.intro | intro _)
  any_goals (first | (refine hK5 _ ?_; clear hK5) | (first | omega | (simp only [IntKind.wrap_i64] at *; omega) | (simp_all; done) | (simp_all; omega)))
  refine swp_ret ?_
  simp [fnPost, Try.results19, resP, tupOf]

theorem a91 : PCall Try.prog 35 [.int .i64 1] (.tup [bookV 1, .int .i64 0]) := by
  exact get_book 1 (by omega) (by omega)
theorem a92 : PCall Try.prog 35 [.int .i64 11] (.tup [bookV 11, .int .i64 0]) := by
  exact get_book 11 (by omega) (by omega)
theorem a93 : PCall Try.prog 15 [.ro (.ints .u8 []), bookV 1, .ro (.ints .i64 [0, 0, 0, 0])] (.tup [.ro (.ints .u8 [1]), .int .i64 0]) := by
  have := hput_ok 1 (by omega) (by omega) [] [0, 0, 0, 0] rfl (by decide +kernel) (by simp)
  rw [show [] ++ huffL 1 [0, 0, 0, 0] = [1] from by decide +kernel] at this
  exact this
theorem a94 : PCall Try.prog 15 [.ro (.ints .u8 []), bookV 11, .ro (.ints .i64 [0, 0])] (.tup [.ro (.ints .u8 [1, 0, 0]), .int .i64 0]) := by
  have := hput_ok 11 (by omega) (by omega) [] [0, 0] rfl (by decide +kernel) (by simp)
  rw [show [] ++ huffL 11 [0, 0] = [1, 0, 0] from by decide +kernel] at this
  exact this

set_option maxHeartbeats 2000000 in
theorem alive9  : PCall Try.prog 34 [] (.bool true) := by
  refine pcall_body ty_ok Try.func34 rfl (by rfl) (by simp) ?_
  rw [Try.ntmps34]
  refine swp_seq fun K1 hK1 => ?_
  refine swp_region ty_ok ?_
  try simp (maxSteps := 1000000) [bookV]
  repeat' (first | apply And.intro | intro _)
  any_goals (first | (refine hK1 _ ?_; clear hK1) | (first | omega | (simp only [IntKind.wrap_i64] at *; omega) | (simp_all; done) | (simp_all; omega)))
  refine swp_seq fun K2 hK2 => ?_
  refine swp_region ty_ok ?_
  refine runs_cut 1 fun R3 hR3 => ?_
  try simp (maxSteps := 1000000) [bookV, List.take_succ_cons, List.take_zero, List.drop_succ_cons, List.drop_zero]
  refine .inl ⟨_, a91, ?_⟩
  try simp (maxSteps := 1000000) [bookV]
  repeat' (first | apply And.intro | intro _)
  any_goals (first | (refine hR3 _ ?_; clear hR3) | (first | omega | (simp only [IntKind.wrap_i64] at *; omega) | (simp_all; done) | (simp_all; omega)))
  try simp (maxSteps := 1000000) [bookV, List.take_succ_cons, List.take_zero, List.drop_succ_cons, List.drop_zero]
  repeat' (first | apply And.intro | intro _)
  any_goals (first | (refine hK2 _ ?_; clear hK2) | (first | omega | (simp only [IntKind.wrap_i64] at *; omega) | (simp_all; done) | (simp_all; omega)))
  refine swp_seq fun K4 hK4 => ?_
  refine swp_region ty_ok ?_
  refine runs_cut 1 fun R5 hR5 => ?_
  try simp (maxSteps := 1000000) [bookV, List.take_succ_cons, List.take_zero, List.drop_succ_cons, List.drop_zero]
  refine .inl ⟨_, a92, ?_⟩
  try simp (maxSteps := 1000000) [bookV]
  repeat' (first | apply And.intro | intro _)
  any_goals (first | (refine hR5 _ ?_; clear hR5) | (first | omega | (simp only [IntKind.wrap_i64] at *; omega) | (simp_all; done) | (simp_all; omega)))
  try simp (maxSteps := 1000000) [bookV, List.take_succ_cons, List.take_zero, List.drop_succ_cons, List.drop_zero]
  repeat' (first | apply And.intro | intro _)
  any_goals (first | (refine hK4 _ ?_; clear hK4) | (first | omega | (simp only [IntKind.wrap_i64] at *; omega) | (simp_all; done) | (simp_all; omega)))
  refine swp_seq fun K6 hK6 => ?_
  refine swp_region ty_ok ?_
  refine runs_cut 1 fun R7 hR7 => ?_
  try simp (maxSteps := 1000000) [bookV, List.take_succ_cons, List.take_zero, List.drop_succ_cons, List.drop_zero]
  repeat' (first | apply And.intro | intro _)
  any_goals (first | (refine hR7 _ ?_; clear hR7) | (first | omega | (simp only [IntKind.wrap_i64] at *; omega) | (simp_all; done) | (simp_all; omega)))
  refine runs_cut 1 fun R8 hR8 => ?_
  try simp (maxSteps := 1000000) [bookV, List.take_succ_cons, List.take_zero, List.drop_succ_cons, List.drop_zero]
  repeat' (first | apply And.intro | intro _)
  any_goals (first | (refine Or.inl (hR8 _ ?_); clear hR8) | (first | omega | (simp only [IntKind.wrap_i64] at *; omega) | (simp_all; done) | (simp_all; omega)))
  refine runs_cut 1 fun R9 hR9 => ?_
  try simp (maxSteps := 1000000) [bookV, List.take_succ_cons, List.take_zero, List.drop_succ_cons, List.drop_zero]
  refine .inl ⟨_, a93, ?_⟩
  try simp (maxSteps := 1000000) [bookV]
  repeat' (first | apply And.intro | intro _)
  any_goals (first | (refine hR9 _ ?_; clear hR9) | (first | omega | (simp only [IntKind.wrap_i64] at *; omega) | (simp_all; done) | (simp_all; omega)))
  try simp (maxSteps := 1000000) [bookV, List.take_succ_cons, List.take_zero, List.drop_succ_cons, List.drop_zero]
  repeat' (first | apply And.intro | intro _)
  any_goals (first | (refine hK6 _ ?_; clear hK6) | (first | omega | (simp only [IntKind.wrap_i64] at *; omega) | (simp_all; done) | (simp_all; omega)))
  refine swp_seq fun K10 hK10 => ?_
  refine swp_region ty_ok ?_
  refine runs_cut 1 fun R11 hR11 => ?_
  try simp (maxSteps := 1000000) [bookV, List.take_succ_cons, List.take_zero, List.drop_succ_cons, List.drop_zero]
  repeat' (first | apply And.intro | intro _)
  any_goals (first | (refine hR11 _ ?_; clear hR11) | (first | omega | (simp only [IntKind.wrap_i64] at *; omega) | (simp_all; done) | (simp_all; omega)))
  refine runs_cut 1 fun R12 hR12 => ?_
  try simp (maxSteps := 1000000) [bookV, List.take_succ_cons, List.take_zero, List.drop_succ_cons, List.drop_zero]
  repeat' (first | apply And.intro | intro _)
  any_goals (first | (refine Or.inl (hR12 _ ?_); clear hR12) | (first | omega | (simp only [IntKind.wrap_i64] at *; omega) | (simp_all; done) | (simp_all; omega)))
  refine runs_cut 1 fun R13 hR13 => ?_
  try simp (maxSteps := 1000000) [bookV, List.take_succ_cons, List.take_zero, List.drop_succ_cons, List.drop_zero]
  refine .inl ⟨_, a94, ?_⟩
  try simp (maxSteps := 1000000) [bookV]
  repeat' (first | apply And.intro | intro _)
  any_goals (first | (refine hR13 _ ?_; clear hR13) | (first | omega | (simp only [IntKind.wrap_i64] at *; omega) | (simp_all; done) | (simp_all; omega)))
  try simp (maxSteps := 1000000) [bookV, List.take_succ_cons, List.take_zero, List.drop_succ_cons, List.drop_zero]
  repeat' (first | apply And.intro | intro _)
  any_goals (first | (refine hK10 _ ?_; clear hK10) | (first | omega | (simp only [IntKind.wrap_i64] at *; omega) | (simp_all; done) | (simp_all; omega)))
  refine swp_seq fun K14 hK14 => ?_
  refine swp_region ty_ok ?_
  refine runs_cut 8 fun R15 hR15 => ?_
  try simp (maxSteps := 1000000) [bookV, List.take_succ_cons, List.take_zero, List.drop_succ_cons, List.drop_zero]
  repeat' (first | apply And.intro | intro _)
  any_goals (first | (refine hR15 _ ?_; clear hR15) | (first | omega | (simp only [IntKind.wrap_i64] at *; omega) | (simp_all; done) | (simp_all; omega)))
  refine runs_cut 8 fun R16 hR16 => ?_
  try simp (maxSteps := 1000000) [bookV, List.take_succ_cons, List.take_zero, List.drop_succ_cons, List.drop_zero]
  repeat' (first | apply And.intro | intro _)
  any_goals (first | (refine hR16 _ ?_; clear hR16) | (first | omega | (simp only [IntKind.wrap_i64] at *; omega) | (simp_all; done) | (simp_all; omega)))
  try simp (maxSteps := 1000000) [bookV, List.take_succ_cons, List.take_zero, List.drop_succ_cons, List.drop_zero]
  repeat' (first | apply And.intro | intro _)
  any_goals (first | (refine hK14 _ ?_; clear hK14) | (first | omega | (simp only [IntKind.wrap_i64] at *; omega) | (simp_all; done) | (simp_all; omega)))
  refine swp_ret ?_
  simp [fnPost, Try.results34, resP, tupOf]
  exact ⟨rfl, rfl⟩

theorem hcost_fit (i : Nat) (h1 : 1 ≤ i) (h2 : i ≤ 11) (vs : List Int) (hd : vs.length = bDim i) (hf : hFit i vs = true) : PCall Try.prog 19 [bookV i, .ro (.ints .i64 vs)] (.tup [.int .i64 (huffL i vs).length, .int .i64 0]) := by
  have hb : (huffL i vs).length ≤ 100000 := by
    have hF := (hkF h1 h2).d
    have hvl : vs.length ≤ 4 := by rw [hd, hF]; split <;> omega
    unfold huffL
    cases hs : hSig i with
    | true =>
      rw [if_pos rfl]
      have := code_len h1 (by omega : i ≤ 12) (sig_ent h1 h2 hd hf hs).2.2
      omega
    | false =>
      rw [if_neg (by simp)]
      have := code_len h1 (by omega : i ≤ 12) (told_ent h1 h2 hd hf hs).2.2
      have := sg_len vs
      have := es_len (i := i) (vs := vs) (fun w hw => ⟨(fit_bd h1 h2 hf hw).2.2.1, (fit_bd h1 h2 hf hw).2.2.2⟩)
      simp only [List.length_append]
      omega
  exact cost_ok _ _ _ _ vs _ 0 (by show (huffL i vs).length ≤ _; omega) (hput_ok i h1 h2 [] vs hd hf (by simp))
theorem hcost_many (i : Nat) (h1 : 1 ≤ i) (h2 : i ≤ 11) (vs : List Int) (hd : ¬ vs.length = bDim i) : PCall Try.prog 19 [bookV i, .ro (.ints .i64 vs)] (.tup [.int .i64 0, .int .i64 4]) := cost_ok _ _ _ _ vs [] 4 (by simp) (hput_many i h1 h2 [] vs hd)
theorem hcost_nofit (i : Nat) (h1 : 1 ≤ i) (h2 : i ≤ 11) (vs : List Int) (hd : vs.length = bDim i) (hf : hFit i vs = false) : PCall Try.prog 19 [bookV i, .ro (.ints .i64 vs)] (.tup [.int .i64 0, .int .i64 2]) := cost_ok _ _ _ _ vs [] 2 (by simp) (hput_nofit i h1 h2 [] vs hd hf)

set_option maxHeartbeats 4000000 in
theorem signs_many (x : Nat) (hx : x ≤ 255) (vs : List Int) (hv : ∀ v ∈ vs, -9223372036854775808 ≤ v ∧ v ≤ 9223372036854775807) (i : Nat) (hi : x % 11 + 1 = i) (hd : ¬ vs.length = bDim i) : PCall Try.prog 7 [.int .u8 (x : Nat), .ro (.ints .i64 vs)] (.bool true) := by
  have h1 : 1 ≤ i := (by omega)
  have h2 : i ≤ 11 := (by omega)
  have hxw : IntKind.i64.wrap (x : Int) = x := w64 (by omega)
  have hxa : IntKind.i64.wrap ((x : Int) % 11) = (x : Int) % 11 := w64 (by omega)
  have hxb : IntKind.i64.wrap ((x : Int) % 11 + 1) = (i : Nat) := by rw [w64 (by omega)]; omega
  have hxt : (x : Int).tmod 11 = (x : Int) % 11 := tmod_nat (a := x) (b := 11) rfl
  have hE := bke h1 (by omega)
  have hB := bk_ok h1 (by omega)
  have hmany := hB.many
  have hplain := hB.plain
  have hel := hE.elen
  have hrl := hE.rlen
  have hmz : ¬ bMany i = 0 := (by omega)
  have hvb : ∀ e, ∀ v ∈ bVal i e, -60 ≤ v ∧ v ≤ 60 := fun e v hv => by have := bDg_bd hB _ _ v hv; have := hB.low; have := hB.high; omega
  have hxt : (x : Int).tmod 11 = (x : Int) % 11 := num11
  have hF := hkF h1 h2
  have hft := hfit_tv h1 h2 hv
  have hml : (vs.map tv).length = vs.length := by simp
  have htk : List.take vs.length (List.map tv vs) = List.map tv vs := List.take_of_length_le (by simp)
  refine pcall_body ty_ok Try.func7 rfl (by rfl) (by simp) ?_
  rw [Try.ntmps7]
  refine swp_seq fun K1 hK1 => ?_
  refine swp_region ty_ok ?_
  try simp (maxSteps := 1000000) [bookV]
  repeat' (first | apply And.intro | intro _)
  any_goals (first | (refine hK1 _ ?_; clear hK1) | (first | omega | (simp only [IntKind.wrap_i64] at *; omega) | (simp_all; done) | (simp_all; omega)))
  refine swp_seq fun K2 hK2 => ?_
  refine swp_region ty_ok ?_
  refine runs_cut 1 fun R3 hR3 => ?_
  try simp (maxSteps := 1000000) [bookV, List.take_succ_cons, List.take_zero, List.drop_succ_cons, List.drop_zero]
  refine .inl ⟨_, alive9, ?_⟩
  try simp (maxSteps := 1000000) [bookV]
  repeat' (first | apply And.intro | intro _)
  any_goals (first | (refine hR3 _ ?_; clear hR3) | (first | omega | (simp only [IntKind.wrap_i64] at *; omega) | (simp_all; done) | (simp_all; omega)))
  try simp (maxSteps := 1000000) [bookV, List.take_succ_cons, List.take_zero, List.drop_succ_cons, List.drop_zero]
  repeat' (first | apply And.intro | intro _)
  any_goals (first | (refine hK2 _ ?_; clear hK2) | (first | omega | (simp only [IntKind.wrap_i64] at *; omega) | (simp_all; done) | (simp_all; omega)))
  refine swp_seq fun K4 hK4 => ?_
  refine swp_seq fun K5 hK5 => ?_
  refine swp_region ty_ok ?_
  try simp (maxSteps := 1000000) [bookV]
  repeat' (first | apply And.intro | intro _)
  any_goals (first | (refine hK5 _ ?_; clear hK5) | (first | omega | (simp only [IntKind.wrap_i64] at *; omega) | (simp_all; done) | (simp_all; omega)))
  refine swp_if fun C6 hC6 => ?_
  try simp (maxSteps := 1000000) [bookV]
  refine hC6 _ (fun hc6 => ?_) (fun hc6 => ?_)
  · clear hC6
    try simp at hc6
    refine swp_seq fun K7 hK7 => ?_
    refine swp_region ty_ok ?_
    try simp (maxSteps := 1000000) [bookV]
    repeat' (first | apply And.intro | intro _)
    any_goals (first | (refine hK7 _ ?_; clear hK7) | (first | omega | (simp only [IntKind.wrap_i64] at *; omega) | (simp_all; done) | (simp_all; omega)))
    refine swp_ret ?_
    simp [fnPost, Try.results7, resP, tupOf]
    skip
  · clear hC6
    try simp at hc6
    refine swp_skip ?_
    try simp only [thn, inBlk]
    refine hK4 _ ?_; clear hK4
    refine swp_seq fun K8 hK8 => ?_
    refine swp_region ty_ok ?_
    try simp (maxSteps := 1000000) [bookV, hxt, hxa, hxb, hxw]
    repeat' (first | apply And.intro | intro _)
    any_goals (first | (refine hK8 _ ?_; clear hK8) | (first | omega | (simp only [IntKind.wrap_i64] at *; omega) | (simp_all; done) | (simp_all; omega)))
    refine swp_seq fun K9 hK9 => ?_
    refine swp_region ty_ok ?_
    refine runs_cut 1 fun R10 hR10 => ?_
    try simp (maxSteps := 1000000) [bookV, List.take_succ_cons, List.take_zero, List.drop_succ_cons, List.drop_zero]
    repeat' (first | apply And.intro | intro _)
    any_goals (first | (refine hR10 _ ?_; clear hR10) | (first | omega | (simp only [IntKind.wrap_i64] at *; omega) | (simp_all; done) | (simp_all; omega)))
    refine runs_cut 1 fun R11 hR11 => ?_
    try simp (maxSteps := 1000000) [bookV, List.take_succ_cons, List.take_zero, List.drop_succ_cons, List.drop_zero]
    refine .inl ⟨_, get_book i h1 (by omega), ?_⟩
    try simp (maxSteps := 1000000) [bookV]
    repeat' (first | apply And.intro | intro _)
    any_goals (first | (refine hR11 _ ?_; clear hR11) | (first | omega | (simp only [IntKind.wrap_i64] at *; omega) | (simp_all; done) | (simp_all; omega)))
    try simp (maxSteps := 1000000) [bookV, List.take_succ_cons, List.take_zero, List.drop_succ_cons, List.drop_zero]
    repeat' (first | apply And.intro | intro _)
    any_goals (first | (refine hK9 _ ?_; clear hK9) | (first | omega | (simp only [IntKind.wrap_i64] at *; omega) | (simp_all; done) | (simp_all; omega)))
    refine swp_seq fun K12 hK12 => ?_
    refine swp_region ty_ok ?_
    try simp (maxSteps := 1000000) [bookV]
    repeat' (first | apply And.intro | intro _)
    any_goals (first | (refine hK12 _ ?_; clear hK12) | (first | omega | (simp only [IntKind.wrap_i64] at *; omega) | (simp_all; done) | (simp_all; omega)))
    refine swp_seq fun K13 hK13 => ?_
    refine swp_seq fun K14 hK14 => ?_
    refine swp_region ty_ok ?_
    try simp (maxSteps := 1000000) [bookV]
    repeat' (first | apply And.intro | intro _)
    any_goals (first | (refine hK14 _ ?_; clear hK14) | (first | omega | (simp only [IntKind.wrap_i64] at *; omega) | (simp_all; done) | (simp_all; omega)))
    refine swp_block ?_
    refine swp_own 9 3 (by simp [getT]; rfl) rfl ?_
    refine swp_loop 2 (fun m_ s_ => ∃ (k : Nat), (k ≤ vs.length) ∧ s_ = ⟨[(1, .ro (.ints .i64 vs)), (5, .bool true), (6, .int .i64 (i : Nat)), (7, .ptr 0 0 0 1), (8, .int .i64 0), (9, .sl 1 0 k k), (10, .int .i64 (k : Nat))], [(0, some ⟨.rows 4 [[.int .i64 (i : Nat), .int .i64 (bPlain i : Nat), .ro (.ints .i64 (bE i)), .ro (.ints .i64 (bR i))]], true, 25⟩), (1, some ⟨.ints .i64 ((vs.take k).map tv), false, 3⟩)], 2⟩ ∧ m_ = vs.length - k) _ ⟨[(1, .ro (.ints .i64 vs)), (5, .bool true), (6, .int .i64 (i : Nat)), (7, .ptr 0 0 0 1), (8, .int .i64 0), (9, .sl 1 0 0 0), (10, .int .i64 (0 : Nat))], [(0, some ⟨.rows 4 [[.int .i64 (i : Nat), .int .i64 (bPlain i : Nat), .ro (.ints .i64 (bE i)), .ro (.ints .i64 (bR i))]], true, 25⟩), (1, some ⟨.ints .i64 ((vs.take 0).map tv), false, 3⟩)], 2⟩ ⟨by simp [getT, PV.lo, lo1], by simp [getH, Blk.lo, Cells.lo, lo1], rfl, by omega⟩ ⟨(0), by (first | omega | (simp only [IntKind.wrap_i64] at *; omega) | (simp_all; done) | (simp_all; omega)), rfl, rfl⟩ ?_
    rintro m_ s_ ⟨k, hL15_0, rfl, rfl⟩ KL15 hL15
    have hkw := wnext (i := k) (by omega)
    refine swp_seq fun K16 hK16 => ?_
    refine swp_seq fun K17 hK17 => ?_
    refine swp_region ty_ok ?_
    try simp (maxSteps := 1000000) [bookV]
    repeat' (first | apply And.intro | intro _)
    any_goals (first | (refine hK17 _ ?_; clear hK17) | (first | omega | (simp only [IntKind.wrap_i64] at *; omega) | (simp_all; done) | (simp_all; omega)))
    refine swp_if fun C18 hC18 => ?_
    try simp (maxSteps := 1000000) [bookV]
    refine hC18 _ (fun hc18 => ?_) (fun hc18 => ?_)
    · clear hC18
      try simp at hc18
      refine swp_skip ?_
      try simp only [thn, inBlk]
      refine hK16 _ ?_; clear hK16
      refine swp_seq fun K19 hK19 => ?_
      refine swp_block ?_
      have hkl : k < vs.length := (by have h := hc18; omega)
      have happ : (vs.take k).map tv ++ [tv (vs[k]?.getD 0)] = (vs.take (k + 1)).map tv := by rw [take_snocI hkl, List.map_append]; rfl
      have happ2 : List.take k (List.map tv vs) ++ [tv (vs[k]?.getD 0)] = List.take (k + 1) (List.map tv vs) := by rw [← List.map_take, happ, List.map_take]
      have hneg : IntKind.i64.wrap (-(vs[k]?.getD 0)) = tv (vs[k]?.getD 0) := rfl
      have hlk : ((vs.take k).map tv).length = k := by rw [List.length_map, List.length_take]; omega
      refine swp_region ty_ok ?_
      refine runs_cut 6 fun R20 hR20 => ?_
      try simp (maxSteps := 1000000) [bookV, hneg, happ2, List.take_succ_cons, List.take_zero, List.drop_succ_cons, List.drop_zero]
      repeat' (first | apply And.intro | intro _)
      any_goals (first | (refine hR20 _ ?_; clear hR20) | (first | omega | (simp only [IntKind.wrap_i64] at *; omega) | (simp_all; done) | (simp_all; omega)))
      refine runs_cut 1 fun R21 hR21 => ?_
      try simp (maxSteps := 1000000) [bookV, hneg, happ2, List.take_succ_cons, List.take_zero, List.drop_succ_cons, List.drop_zero]
      repeat' (first | apply And.intro | intro _)
      any_goals (first | (refine Or.inl (hR21 _ ?_); clear hR21) | (first | omega | (simp only [IntKind.wrap_i64] at *; omega) | (simp_all; done) | (simp_all; omega)))
      try simp (maxSteps := 1000000) [bookV, hneg, happ2, List.take_succ_cons, List.take_zero, List.drop_succ_cons, List.drop_zero]
      repeat' (first | apply And.intro | intro _)
      any_goals (first | (refine hK19 _ ?_; clear hK19) | (first | omega | (simp only [IntKind.wrap_i64] at *; omega) | (simp_all; done) | (simp_all; omega)))
      refine swp_region ty_ok ?_
      try simp (maxSteps := 1000000) [bookV]
      repeat' apply And.intro
      any_goals (try omega)
      refine hL15 _ ⟨[(1, .ro (.ints .i64 vs)), (5, .bool true), (6, .int .i64 (i : Nat)), (7, .ptr 0 0 0 1), (8, .int .i64 0), (9, .sl 1 0 (k + 1) (k + 1)), (10, .int .i64 ((k + 1) : Nat))], [(0, some ⟨.rows 4 [[.int .i64 (i : Nat), .int .i64 (bPlain i : Nat), .ro (.ints .i64 (bE i)), .ro (.ints .i64 (bR i))]], true, 25⟩), (1, some ⟨.ints .i64 ((vs.take (k + 1)).map tv), false, 3⟩)], 2⟩ _ ?_ ⟨(k + 1), by (first | omega | (simp only [IntKind.wrap_i64] at *; omega) | (simp_all; done) | (simp_all; omega)), rfl, rfl⟩ ⟨by simp [getT, PV.lo, lo1, hkw], by simp [getH, Blk.lo, Cells.lo, lo1, happ2], rfl, by omega⟩
      omega
    · clear hC18
      try simp at hc18
      refine swp_exit ?_
      simp [thn, inBlk]
      refine hK13 _ ?_; clear hK13
      refine swp_seq fun K22 hK22 => ?_
      have hke : k = vs.length := (by omega)
      subst hke
      refine swp_region ty_ok ?_
      refine runs_cut 2 fun R23 hR23 => ?_
      try simp (maxSteps := 1000000) [bookV, List.take_succ_cons, List.take_zero, List.drop_succ_cons, List.drop_zero]
      repeat' (first | apply And.intro | intro _)
      any_goals (first | (refine hR23 _ ?_; clear hR23) | (first | omega | (simp only [IntKind.wrap_i64] at *; omega) | (simp_all; done) | (simp_all; omega)))
      refine runs_cut 1 fun R24 hR24 => ?_
      try simp (maxSteps := 1000000) [bookV, List.take_succ_cons, List.take_zero, List.drop_succ_cons, List.drop_zero]
      refine .inl ⟨_, fits_many i h1 h2 vs hd, ?_⟩
      try simp (maxSteps := 1000000) [bookV]
      repeat' (first | apply And.intro | intro _)
      any_goals (first | (refine hR24 _ ?_; clear hR24) | (first | omega | (simp only [IntKind.wrap_i64] at *; omega) | (simp_all; done) | (simp_all; omega)))
      try simp (maxSteps := 1000000) [bookV, List.take_succ_cons, List.take_zero, List.drop_succ_cons, List.drop_zero]
      repeat' (first | apply And.intro | intro _)
      any_goals (first | (refine hK22 _ ?_; clear hK22) | (first | omega | (simp only [IntKind.wrap_i64] at *; omega) | (simp_all; done) | (simp_all; omega)))
      refine swp_seq fun K25 hK25 => ?_
      refine swp_region ty_ok ?_
      refine runs_cut 2 fun R26 hR26 => ?_
      try simp (maxSteps := 1000000) [bookV, htk, List.take_succ_cons, List.take_zero, List.drop_succ_cons, List.drop_zero]
      repeat' (first | apply And.intro | intro _)
      any_goals (first | (refine hR26 _ ?_; clear hR26) | (first | omega | (simp only [IntKind.wrap_i64] at *; omega) | (simp_all; done) | (simp_all; omega)))
      refine runs_cut 1 fun R27 hR27 => ?_
      try simp (maxSteps := 1000000) [bookV, htk, List.take_succ_cons, List.take_zero, List.drop_succ_cons, List.drop_zero]
      refine .inl ⟨_, fits_many i h1 h2 (vs.map tv) (by rw [hml]; exact hd), ?_⟩
      try simp (maxSteps := 1000000) [bookV, htk]
      repeat' (first | apply And.intro | intro _)
      any_goals (first | (refine hR27 _ ?_; clear hR27) | (first | omega | (simp only [IntKind.wrap_i64] at *; omega) | (simp_all; done) | (simp_all; omega)))
      try simp (maxSteps := 1000000) [bookV, htk, List.take_succ_cons, List.take_zero, List.drop_succ_cons, List.drop_zero]
      repeat' (first | apply And.intro | intro _)
      any_goals (first | (refine hK25 _ ?_; clear hK25) | (first | omega | (simp only [IntKind.wrap_i64] at *; omega) | (simp_all; done) | (simp_all; omega)))
      refine swp_seq fun K28 hK28 => ?_
      refine swp_region ty_ok ?_
      refine runs_cut 2 fun R29 hR29 => ?_
      try simp (maxSteps := 1000000) [bookV, List.take_succ_cons, List.take_zero, List.drop_succ_cons, List.drop_zero]
      repeat' (first | apply And.intro | intro _)
      any_goals (first | (refine hR29 _ ?_; clear hR29) | (first | omega | (simp only [IntKind.wrap_i64] at *; omega) | (simp_all; done) | (simp_all; omega)))
      refine runs_cut 1 fun R30 hR30 => ?_
      try simp (maxSteps := 1000000) [bookV, List.take_succ_cons, List.take_zero, List.drop_succ_cons, List.drop_zero]
      refine .inl ⟨_, hcost_many i h1 h2 vs hd, ?_⟩
      try simp (maxSteps := 1000000) [bookV]
      repeat' (first | apply And.intro | intro _)
      any_goals (first | (refine hR30 _ ?_; clear hR30) | (first | omega | (simp only [IntKind.wrap_i64] at *; omega) | (simp_all; done) | (simp_all; omega)))
      try simp (maxSteps := 1000000) [bookV, List.take_succ_cons, List.take_zero, List.drop_succ_cons, List.drop_zero]
      repeat' (first | apply And.intro | intro _)
      any_goals (first | (refine hK28 _ ?_; clear hK28) | (first | omega | (simp only [IntKind.wrap_i64] at *; omega) | (simp_all; done) | (simp_all; omega)))
      refine swp_seq fun K31 hK31 => ?_
      refine swp_region ty_ok ?_
      refine runs_cut 2 fun R32 hR32 => ?_
      try simp (maxSteps := 1000000) [bookV, List.take_succ_cons, List.take_zero, List.drop_succ_cons, List.drop_zero]
      repeat' (first | apply And.intro | intro _)
      any_goals (first | (refine hR32 _ ?_; clear hR32) | (first | omega | (simp only [IntKind.wrap_i64] at *; omega) | (simp_all; done) | (simp_all; omega)))
      refine runs_cut 1 fun R33 hR33 => ?_
      try simp (maxSteps := 1000000) [bookV, List.take_succ_cons, List.take_zero, List.drop_succ_cons, List.drop_zero]
      refine .inl ⟨_, hcost_many i h1 h2 (vs.map tv) (by rw [hml]; exact hd), ?_⟩
      try simp (maxSteps := 1000000) [bookV]
      repeat' (first | apply And.intro | intro _)
      any_goals (first | (refine hR33 _ ?_; clear hR33) | (first | omega | (simp only [IntKind.wrap_i64] at *; omega) | (simp_all; done) | (simp_all; omega)))
      try simp (maxSteps := 1000000) [bookV, List.take_succ_cons, List.take_zero, List.drop_succ_cons, List.drop_zero]
      repeat' (first | apply And.intro | intro _)
      any_goals (first | (refine hK31 _ ?_; clear hK31) | (first | omega | (simp only [IntKind.wrap_i64] at *; omega) | (simp_all; done) | (simp_all; omega)))
      refine swp_seq fun K34 hK34 => ?_
      refine swp_seq fun K35 hK35 => ?_
      refine swp_region ty_ok ?_
      refine runs_cut 8 fun R36 hR36 => ?_
      try simp (maxSteps := 1000000) [bookV, List.take_succ_cons, List.take_zero, List.drop_succ_cons, List.drop_zero]
      repeat' (first | apply And.intro | intro _)
      any_goals (first | (refine hR36 _ ?_; clear hR36) | (first | omega | (simp only [IntKind.wrap_i64] at *; omega) | (simp_all; done) | (simp_all; omega)))
      try simp (maxSteps := 1000000) [bookV, List.take_succ_cons, List.take_zero, List.drop_succ_cons, List.drop_zero]
      repeat' (first | apply And.intro | intro _)
      any_goals (first | (refine hK35 _ ?_; clear hK35) | (first | omega | (simp only [IntKind.wrap_i64] at *; omega) | (simp_all; done) | (simp_all; omega)))
      refine swp_if fun C37 hC37 => ?_
      try simp (maxSteps := 1000000) [bookV]
      refine hC37 _ (fun hc37 => ?_) (fun hc37 => ?_)
      · exact absurd hc37 (by simp [hft])
      · clear hC37
        try simp at hc37
        refine swp_skip ?_
        try simp only [thn, inBlk]
        refine hK34 _ ?_; clear hK34
        refine swp_seq fun K38 hK38 => ?_
        refine swp_region ty_ok ?_
        refine runs_cut 8 fun R39 hR39 => ?_
        try simp (maxSteps := 1000000) [bookV, List.take_succ_cons, List.take_zero, List.drop_succ_cons, List.drop_zero]
        repeat' (first | apply And.intro | intro _)
        any_goals (first | (refine hR39 _ ?_; clear hR39) | (first | omega | (simp only [IntKind.wrap_i64] at *; omega) | (simp_all; done) | (simp_all; omega)))
        try simp (maxSteps := 1000000) [bookV, List.take_succ_cons, List.take_zero, List.drop_succ_cons, List.drop_zero]
        repeat' (first | apply And.intro | intro _)
        any_goals (first | (refine hK38 _ ?_; clear hK38) | (first | omega | (simp only [IntKind.wrap_i64] at *; omega) | (simp_all; done) | (simp_all; omega)))
        refine swp_ret ?_
        simp [fnPost, Try.results7, resP, tupOf]
        skip

set_option maxHeartbeats 4000000 in
theorem signs_nofit (x : Nat) (hx : x ≤ 255) (vs : List Int) (hv : ∀ v ∈ vs, -9223372036854775808 ≤ v ∧ v ≤ 9223372036854775807) (i : Nat) (hi : x % 11 + 1 = i) (hd : vs.length = bDim i) (hf : hFit i vs = false) : PCall Try.prog 7 [.int .u8 (x : Nat), .ro (.ints .i64 vs)] (.bool true) := by
  have h1 : 1 ≤ i := (by omega)
  have h2 : i ≤ 11 := (by omega)
  have hxw : IntKind.i64.wrap (x : Int) = x := w64 (by omega)
  have hxa : IntKind.i64.wrap ((x : Int) % 11) = (x : Int) % 11 := w64 (by omega)
  have hxb : IntKind.i64.wrap ((x : Int) % 11 + 1) = (i : Nat) := by rw [w64 (by omega)]; omega
  have hxt : (x : Int).tmod 11 = (x : Int) % 11 := tmod_nat (a := x) (b := 11) rfl
  have hE := bke h1 (by omega)
  have hB := bk_ok h1 (by omega)
  have hmany := hB.many
  have hplain := hB.plain
  have hel := hE.elen
  have hrl := hE.rlen
  have hmz : ¬ bMany i = 0 := (by omega)
  have hvb : ∀ e, ∀ v ∈ bVal i e, -60 ≤ v ∧ v ≤ 60 := fun e v hv => by have := bDg_bd hB _ _ v hv; have := hB.low; have := hB.high; omega
  have hxt : (x : Int).tmod 11 = (x : Int) % 11 := num11
  have hF := hkF h1 h2
  have hft := hfit_tv h1 h2 hv
  have hml : (vs.map tv).length = vs.length := by simp
  have htk : List.take vs.length (List.map tv vs) = List.map tv vs := List.take_of_length_le (by simp)
  refine pcall_body ty_ok Try.func7 rfl (by rfl) (by simp) ?_
  rw [Try.ntmps7]
  refine swp_seq fun K1 hK1 => ?_
  refine swp_region ty_ok ?_
  try simp (maxSteps := 1000000) [bookV]
  repeat' (first | apply And.intro | intro _)
  any_goals (first | (refine hK1 _ ?_; clear hK1) | (first | omega | (simp only [IntKind.wrap_i64] at *; omega) | (simp_all; done) | (simp_all; omega)))
  refine swp_seq fun K2 hK2 => ?_
  refine swp_region ty_ok ?_
  refine runs_cut 1 fun R3 hR3 => ?_
  try simp (maxSteps := 1000000) [bookV, List.take_succ_cons, List.take_zero, List.drop_succ_cons, List.drop_zero]
  refine .inl ⟨_, alive9, ?_⟩
  try simp (maxSteps := 1000000) [bookV]
  repeat' (first | apply And.intro | intro _)
  any_goals (first | (refine hR3 _ ?_; clear hR3) | (first | omega | (simp only [IntKind.wrap_i64] at *; omega) | (simp_all; done) | (simp_all; omega)))
  try simp (maxSteps := 1000000) [bookV, List.take_succ_cons, List.take_zero, List.drop_succ_cons, List.drop_zero]
  repeat' (first | apply And.intro | intro _)
  any_goals (first | (refine hK2 _ ?_; clear hK2) | (first | omega | (simp only [IntKind.wrap_i64] at *; omega) | (simp_all; done) | (simp_all; omega)))
  refine swp_seq fun K4 hK4 => ?_
  refine swp_seq fun K5 hK5 => ?_
  refine swp_region ty_ok ?_
  try simp (maxSteps := 1000000) [bookV]
  repeat' (first | apply And.intro | intro _)
  any_goals (first | (refine hK5 _ ?_; clear hK5) | (first | omega | (simp only [IntKind.wrap_i64] at *; omega) | (simp_all; done) | (simp_all; omega)))
  refine swp_if fun C6 hC6 => ?_
  try simp (maxSteps := 1000000) [bookV]
  refine hC6 _ (fun hc6 => ?_) (fun hc6 => ?_)
  · clear hC6
    try simp at hc6
    refine swp_seq fun K7 hK7 => ?_
    refine swp_region ty_ok ?_
    try simp (maxSteps := 1000000) [bookV]
    repeat' (first | apply And.intro | intro _)
    any_goals (first | (refine hK7 _ ?_; clear hK7) | (first | omega | (simp only [IntKind.wrap_i64] at *; omega) | (simp_all; done) | (simp_all; omega)))
    refine swp_ret ?_
    simp [fnPost, Try.results7, resP, tupOf]
    skip
  · clear hC6
    try simp at hc6
    refine swp_skip ?_
    try simp only [thn, inBlk]
    refine hK4 _ ?_; clear hK4
    refine swp_seq fun K8 hK8 => ?_
    refine swp_region ty_ok ?_
    try simp (maxSteps := 1000000) [bookV, hxt, hxa, hxb, hxw]
    repeat' (first | apply And.intro | intro _)
    any_goals (first | (refine hK8 _ ?_; clear hK8) | (first | omega | (simp only [IntKind.wrap_i64] at *; omega) | (simp_all; done) | (simp_all; omega)))
    refine swp_seq fun K9 hK9 => ?_
    refine swp_region ty_ok ?_
    refine runs_cut 1 fun R10 hR10 => ?_
    try simp (maxSteps := 1000000) [bookV, List.take_succ_cons, List.take_zero, List.drop_succ_cons, List.drop_zero]
    repeat' (first | apply And.intro | intro _)
    any_goals (first | (refine hR10 _ ?_; clear hR10) | (first | omega | (simp only [IntKind.wrap_i64] at *; omega) | (simp_all; done) | (simp_all; omega)))
    refine runs_cut 1 fun R11 hR11 => ?_
    try simp (maxSteps := 1000000) [bookV, List.take_succ_cons, List.take_zero, List.drop_succ_cons, List.drop_zero]
    refine .inl ⟨_, get_book i h1 (by omega), ?_⟩
    try simp (maxSteps := 1000000) [bookV]
    repeat' (first | apply And.intro | intro _)
    any_goals (first | (refine hR11 _ ?_; clear hR11) | (first | omega | (simp only [IntKind.wrap_i64] at *; omega) | (simp_all; done) | (simp_all; omega)))
    try simp (maxSteps := 1000000) [bookV, List.take_succ_cons, List.take_zero, List.drop_succ_cons, List.drop_zero]
    repeat' (first | apply And.intro | intro _)
    any_goals (first | (refine hK9 _ ?_; clear hK9) | (first | omega | (simp only [IntKind.wrap_i64] at *; omega) | (simp_all; done) | (simp_all; omega)))
    refine swp_seq fun K12 hK12 => ?_
    refine swp_region ty_ok ?_
    try simp (maxSteps := 1000000) [bookV]
    repeat' (first | apply And.intro | intro _)
    any_goals (first | (refine hK12 _ ?_; clear hK12) | (first | omega | (simp only [IntKind.wrap_i64] at *; omega) | (simp_all; done) | (simp_all; omega)))
    refine swp_seq fun K13 hK13 => ?_
    refine swp_seq fun K14 hK14 => ?_
    refine swp_region ty_ok ?_
    try simp (maxSteps := 1000000) [bookV]
    repeat' (first | apply And.intro | intro _)
    any_goals (first | (refine hK14 _ ?_; clear hK14) | (first | omega | (simp only [IntKind.wrap_i64] at *; omega) | (simp_all; done) | (simp_all; omega)))
    refine swp_block ?_
    refine swp_own 9 3 (by simp [getT]; rfl) rfl ?_
    refine swp_loop 2 (fun m_ s_ => ∃ (k : Nat), (k ≤ vs.length) ∧ s_ = ⟨[(1, .ro (.ints .i64 vs)), (5, .bool true), (6, .int .i64 (i : Nat)), (7, .ptr 0 0 0 1), (8, .int .i64 0), (9, .sl 1 0 k k), (10, .int .i64 (k : Nat))], [(0, some ⟨.rows 4 [[.int .i64 (i : Nat), .int .i64 (bPlain i : Nat), .ro (.ints .i64 (bE i)), .ro (.ints .i64 (bR i))]], true, 25⟩), (1, some ⟨.ints .i64 ((vs.take k).map tv), false, 3⟩)], 2⟩ ∧ m_ = vs.length - k) _ ⟨[(1, .ro (.ints .i64 vs)), (5, .bool true), (6, .int .i64 (i : Nat)), (7, .ptr 0 0 0 1), (8, .int .i64 0), (9, .sl 1 0 0 0), (10, .int .i64 (0 : Nat))], [(0, some ⟨.rows 4 [[.int .i64 (i : Nat), .int .i64 (bPlain i : Nat), .ro (.ints .i64 (bE i)), .ro (.ints .i64 (bR i))]], true, 25⟩), (1, some ⟨.ints .i64 ((vs.take 0).map tv), false, 3⟩)], 2⟩ ⟨by simp [getT, PV.lo, lo1], by simp [getH, Blk.lo, Cells.lo, lo1], rfl, by omega⟩ ⟨(0), by (first | omega | (simp only [IntKind.wrap_i64] at *; omega) | (simp_all; done) | (simp_all; omega)), rfl, rfl⟩ ?_
    rintro m_ s_ ⟨k, hL15_0, rfl, rfl⟩ KL15 hL15
    have hkw := wnext (i := k) (by omega)
    refine swp_seq fun K16 hK16 => ?_
    refine swp_seq fun K17 hK17 => ?_
    refine swp_region ty_ok ?_
    try simp (maxSteps := 1000000) [bookV]
    repeat' (first | apply And.intro | intro _)
    any_goals (first | (refine hK17 _ ?_; clear hK17) | (first | omega | (simp only [IntKind.wrap_i64] at *; omega) | (simp_all; done) | (simp_all; omega)))
    refine swp_if fun C18 hC18 => ?_
    try simp (maxSteps := 1000000) [bookV]
    refine hC18 _ (fun hc18 => ?_) (fun hc18 => ?_)
    · clear hC18
      try simp at hc18
      refine swp_skip ?_
      try simp only [thn, inBlk]
      refine hK16 _ ?_; clear hK16
      refine swp_seq fun K19 hK19 => ?_
      refine swp_block ?_
      have hkl : k < vs.length := (by have h := hc18; omega)
      have happ : (vs.take k).map tv ++ [tv (vs[k]?.getD 0)] = (vs.take (k + 1)).map tv := by rw [take_snocI hkl, List.map_append]; rfl
      have happ2 : List.take k (List.map tv vs) ++ [tv (vs[k]?.getD 0)] = List.take (k + 1) (List.map tv vs) := by rw [← List.map_take, happ, List.map_take]
      have hneg : IntKind.i64.wrap (-(vs[k]?.getD 0)) = tv (vs[k]?.getD 0) := rfl
      have hlk : ((vs.take k).map tv).length = k := by rw [List.length_map, List.length_take]; omega
      refine swp_region ty_ok ?_
      refine runs_cut 6 fun R20 hR20 => ?_
      try simp (maxSteps := 1000000) [bookV, hneg, happ2, List.take_succ_cons, List.take_zero, List.drop_succ_cons, List.drop_zero]
      repeat' (first | apply And.intro | intro _)
      any_goals (first | (refine hR20 _ ?_; clear hR20) | (first | omega | (simp only [IntKind.wrap_i64] at *; omega) | (simp_all; done) | (simp_all; omega)))
      refine runs_cut 1 fun R21 hR21 => ?_
      try simp (maxSteps := 1000000) [bookV, hneg, happ2, List.take_succ_cons, List.take_zero, List.drop_succ_cons, List.drop_zero]
      repeat' (first | apply And.intro | intro _)
      any_goals (first | (refine Or.inl (hR21 _ ?_); clear hR21) | (first | omega | (simp only [IntKind.wrap_i64] at *; omega) | (simp_all; done) | (simp_all; omega)))
      try simp (maxSteps := 1000000) [bookV, hneg, happ2, List.take_succ_cons, List.take_zero, List.drop_succ_cons, List.drop_zero]
      repeat' (first | apply And.intro | intro _)
      any_goals (first | (refine hK19 _ ?_; clear hK19) | (first | omega | (simp only [IntKind.wrap_i64] at *; omega) | (simp_all; done) | (simp_all; omega)))
      refine swp_region ty_ok ?_
      try simp (maxSteps := 1000000) [bookV]
      repeat' apply And.intro
      any_goals (try omega)
      refine hL15 _ ⟨[(1, .ro (.ints .i64 vs)), (5, .bool true), (6, .int .i64 (i : Nat)), (7, .ptr 0 0 0 1), (8, .int .i64 0), (9, .sl 1 0 (k + 1) (k + 1)), (10, .int .i64 ((k + 1) : Nat))], [(0, some ⟨.rows 4 [[.int .i64 (i : Nat), .int .i64 (bPlain i : Nat), .ro (.ints .i64 (bE i)), .ro (.ints .i64 (bR i))]], true, 25⟩), (1, some ⟨.ints .i64 ((vs.take (k + 1)).map tv), false, 3⟩)], 2⟩ _ ?_ ⟨(k + 1), by (first | omega | (simp only [IntKind.wrap_i64] at *; omega) | (simp_all; done) | (simp_all; omega)), rfl, rfl⟩ ⟨by simp [getT, PV.lo, lo1, hkw], by simp [getH, Blk.lo, Cells.lo, lo1, happ2], rfl, by omega⟩
      omega
    · clear hC18
      try simp at hc18
      refine swp_exit ?_
      simp [thn, inBlk]
      refine hK13 _ ?_; clear hK13
      refine swp_seq fun K22 hK22 => ?_
      have hke : k = vs.length := (by omega)
      subst hke
      refine swp_region ty_ok ?_
      refine runs_cut 2 fun R23 hR23 => ?_
      try simp (maxSteps := 1000000) [bookV, List.take_succ_cons, List.take_zero, List.drop_succ_cons, List.drop_zero]
      repeat' (first | apply And.intro | intro _)
      any_goals (first | (refine hR23 _ ?_; clear hR23) | (first | omega | (simp only [IntKind.wrap_i64] at *; omega) | (simp_all; done) | (simp_all; omega)))
      refine runs_cut 1 fun R24 hR24 => ?_
      try simp (maxSteps := 1000000) [bookV, List.take_succ_cons, List.take_zero, List.drop_succ_cons, List.drop_zero]
      refine .inl ⟨_, fits_ok i h1 h2 vs hd, ?_⟩
      try simp (maxSteps := 1000000) [bookV]
      repeat' (first | apply And.intro | intro _)
      any_goals (first | (refine hR24 _ ?_; clear hR24) | (first | omega | (simp only [IntKind.wrap_i64] at *; omega) | (simp_all; done) | (simp_all; omega)))
      try simp (maxSteps := 1000000) [bookV, List.take_succ_cons, List.take_zero, List.drop_succ_cons, List.drop_zero]
      repeat' (first | apply And.intro | intro _)
      any_goals (first | (refine hK22 _ ?_; clear hK22) | (first | omega | (simp only [IntKind.wrap_i64] at *; omega) | (simp_all; done) | (simp_all; omega)))
      refine swp_seq fun K25 hK25 => ?_
      refine swp_region ty_ok ?_
      refine runs_cut 2 fun R26 hR26 => ?_
      try simp (maxSteps := 1000000) [bookV, htk, List.take_succ_cons, List.take_zero, List.drop_succ_cons, List.drop_zero]
      repeat' (first | apply And.intro | intro _)
      any_goals (first | (refine hR26 _ ?_; clear hR26) | (first | omega | (simp only [IntKind.wrap_i64] at *; omega) | (simp_all; done) | (simp_all; omega)))
      refine runs_cut 1 fun R27 hR27 => ?_
      try simp (maxSteps := 1000000) [bookV, htk, List.take_succ_cons, List.take_zero, List.drop_succ_cons, List.drop_zero]
      refine .inl ⟨_, fits_ok i h1 h2 (vs.map tv) (by rw [hml]; exact hd), ?_⟩
      try simp (maxSteps := 1000000) [bookV, htk]
      repeat' (first | apply And.intro | intro _)
      any_goals (first | (refine hR27 _ ?_; clear hR27) | (first | omega | (simp only [IntKind.wrap_i64] at *; omega) | (simp_all; done) | (simp_all; omega)))
      try simp (maxSteps := 1000000) [bookV, htk, List.take_succ_cons, List.take_zero, List.drop_succ_cons, List.drop_zero]
      repeat' (first | apply And.intro | intro _)
      any_goals (first | (refine hK25 _ ?_; clear hK25) | (first | omega | (simp only [IntKind.wrap_i64] at *; omega) | (simp_all; done) | (simp_all; omega)))
      refine swp_seq fun K28 hK28 => ?_
      refine swp_region ty_ok ?_
      refine runs_cut 2 fun R29 hR29 => ?_
      try simp (maxSteps := 1000000) [bookV, List.take_succ_cons, List.take_zero, List.drop_succ_cons, List.drop_zero]
      repeat' (first | apply And.intro | intro _)
      any_goals (first | (refine hR29 _ ?_; clear hR29) | (first | omega | (simp only [IntKind.wrap_i64] at *; omega) | (simp_all; done) | (simp_all; omega)))
      refine runs_cut 1 fun R30 hR30 => ?_
      try simp (maxSteps := 1000000) [bookV, List.take_succ_cons, List.take_zero, List.drop_succ_cons, List.drop_zero]
      refine .inl ⟨_, hcost_nofit i h1 h2 vs hd hf, ?_⟩
      try simp (maxSteps := 1000000) [bookV]
      repeat' (first | apply And.intro | intro _)
      any_goals (first | (refine hR30 _ ?_; clear hR30) | (first | omega | (simp only [IntKind.wrap_i64] at *; omega) | (simp_all; done) | (simp_all; omega)))
      try simp (maxSteps := 1000000) [bookV, List.take_succ_cons, List.take_zero, List.drop_succ_cons, List.drop_zero]
      repeat' (first | apply And.intro | intro _)
      any_goals (first | (refine hK28 _ ?_; clear hK28) | (first | omega | (simp only [IntKind.wrap_i64] at *; omega) | (simp_all; done) | (simp_all; omega)))
      refine swp_seq fun K31 hK31 => ?_
      refine swp_region ty_ok ?_
      refine runs_cut 2 fun R32 hR32 => ?_
      try simp (maxSteps := 1000000) [bookV, List.take_succ_cons, List.take_zero, List.drop_succ_cons, List.drop_zero]
      repeat' (first | apply And.intro | intro _)
      any_goals (first | (refine hR32 _ ?_; clear hR32) | (first | omega | (simp only [IntKind.wrap_i64] at *; omega) | (simp_all; done) | (simp_all; omega)))
      refine runs_cut 1 fun R33 hR33 => ?_
      try simp (maxSteps := 1000000) [bookV, List.take_succ_cons, List.take_zero, List.drop_succ_cons, List.drop_zero]
      refine .inl ⟨_, hcost_nofit i h1 h2 (vs.map tv) (by rw [hml]; exact hd) (by rw [hft]; exact hf), ?_⟩
      try simp (maxSteps := 1000000) [bookV]
      repeat' (first | apply And.intro | intro _)
      any_goals (first | (refine hR33 _ ?_; clear hR33) | (first | omega | (simp only [IntKind.wrap_i64] at *; omega) | (simp_all; done) | (simp_all; omega)))
      try simp (maxSteps := 1000000) [bookV, List.take_succ_cons, List.take_zero, List.drop_succ_cons, List.drop_zero]
      repeat' (first | apply And.intro | intro _)
      any_goals (first | (refine hK31 _ ?_; clear hK31) | (first | omega | (simp only [IntKind.wrap_i64] at *; omega) | (simp_all; done) | (simp_all; omega)))
      refine swp_seq fun K34 hK34 => ?_
      refine swp_seq fun K35 hK35 => ?_
      refine swp_region ty_ok ?_
      refine runs_cut 8 fun R36 hR36 => ?_
      try simp (maxSteps := 1000000) [bookV, List.take_succ_cons, List.take_zero, List.drop_succ_cons, List.drop_zero]
      repeat' (first | apply And.intro | intro _)
      any_goals (first | (refine hR36 _ ?_; clear hR36) | (first | omega | (simp only [IntKind.wrap_i64] at *; omega) | (simp_all; done) | (simp_all; omega)))
      try simp (maxSteps := 1000000) [bookV, List.take_succ_cons, List.take_zero, List.drop_succ_cons, List.drop_zero]
      repeat' (first | apply And.intro | intro _)
      any_goals (first | (refine hK35 _ ?_; clear hK35) | (first | omega | (simp only [IntKind.wrap_i64] at *; omega) | (simp_all; done) | (simp_all; omega)))
      refine swp_if fun C37 hC37 => ?_
      try simp (maxSteps := 1000000) [bookV]
      refine hC37 _ (fun hc37 => ?_) (fun hc37 => ?_)
      · exact absurd hc37 (by simp [hft])
      · clear hC37
        try simp at hc37
        refine swp_skip ?_
        try simp only [thn, inBlk]
        refine hK34 _ ?_; clear hK34
        refine swp_seq fun K38 hK38 => ?_
        refine swp_region ty_ok ?_
        refine runs_cut 8 fun R39 hR39 => ?_
        try simp (maxSteps := 1000000) [bookV, List.take_succ_cons, List.take_zero, List.drop_succ_cons, List.drop_zero]
        repeat' (first | apply And.intro | intro _)
        any_goals (first | (refine hR39 _ ?_; clear hR39) | (first | omega | (simp only [IntKind.wrap_i64] at *; omega) | (simp_all; done) | (simp_all; omega)))
        try simp (maxSteps := 1000000) [bookV, List.take_succ_cons, List.take_zero, List.drop_succ_cons, List.drop_zero]
        repeat' (first | apply And.intro | intro _)
        any_goals (first | (refine hK38 _ ?_; clear hK38) | (first | omega | (simp only [IntKind.wrap_i64] at *; omega) | (simp_all; done) | (simp_all; omega)))
        refine swp_ret ?_
        simp [fnPost, Try.results7, resP, tupOf]
        skip

set_option maxHeartbeats 4000000 in
theorem signs_fit (x : Nat) (hx : x ≤ 255) (vs : List Int) (hv : ∀ v ∈ vs, -9223372036854775808 ≤ v ∧ v ≤ 9223372036854775807) (i : Nat) (hi : x % 11 + 1 = i) (hd : vs.length = bDim i) (hf : hFit i vs = true) : PCall Try.prog 7 [.int .u8 (x : Nat), .ro (.ints .i64 vs)] (.bool true) := by
  have h1 : 1 ≤ i := (by omega)
  have h2 : i ≤ 11 := (by omega)
  have hxw : IntKind.i64.wrap (x : Int) = x := w64 (by omega)
  have hxa : IntKind.i64.wrap ((x : Int) % 11) = (x : Int) % 11 := w64 (by omega)
  have hxb : IntKind.i64.wrap ((x : Int) % 11 + 1) = (i : Nat) := by rw [w64 (by omega)]; omega
  have hxt : (x : Int).tmod 11 = (x : Int) % 11 := tmod_nat (a := x) (b := 11) rfl
  have hE := bke h1 (by omega)
  have hB := bk_ok h1 (by omega)
  have hmany := hB.many
  have hplain := hB.plain
  have hel := hE.elen
  have hrl := hE.rlen
  have hmz : ¬ bMany i = 0 := (by omega)
  have hvb : ∀ e, ∀ v ∈ bVal i e, -60 ≤ v ∧ v ≤ 60 := fun e v hv => by have := bDg_bd hB _ _ v hv; have := hB.low; have := hB.high; omega
  have hxt : (x : Int).tmod 11 = (x : Int) % 11 := num11
  have hF := hkF h1 h2
  have hft := hfit_tv h1 h2 hv
  have hml : (vs.map tv).length = vs.length := by simp
  have htk : List.take vs.length (List.map tv vs) = List.map tv vs := List.take_of_length_le (by simp)
  refine pcall_body ty_ok Try.func7 rfl (by rfl) (by simp) ?_
  rw [Try.ntmps7]
  refine swp_seq fun K1 hK1 => ?_
  refine swp_region ty_ok ?_
  try simp (maxSteps := 1000000) [bookV]
  repeat' (first | apply And.intro | intro _)
  any_goals (first | (refine hK1 _ ?_; clear hK1) | (first | omega | (simp only [IntKind.wrap_i64] at *; omega) | (simp_all; done) | (simp_all; omega)))
  refine swp_seq fun K2 hK2 => ?_
  refine swp_region ty_ok ?_
  refine runs_cut 1 fun R3 hR3 => ?_
  try simp (maxSteps := 1000000) [bookV, List.take_succ_cons, List.take_zero, List.drop_succ_cons, List.drop_zero]
  refine .inl ⟨_, alive9, ?_⟩
  try simp (maxSteps := 1000000) [bookV]
  repeat' (first | apply And.intro | intro _)
  any_goals (first | (refine hR3 _ ?_; clear hR3) | (first | omega | (simp only [IntKind.wrap_i64] at *; omega) | (simp_all; done) | (simp_all; omega)))
  try simp (maxSteps := 1000000) [bookV, List.take_succ_cons, List.take_zero, List.drop_succ_cons, List.drop_zero]
  repeat' (first | apply And.intro | intro _)
  any_goals (first | (refine hK2 _ ?_; clear hK2) | (first | omega | (simp only [IntKind.wrap_i64] at *; omega) | (simp_all; done) | (simp_all; omega)))
  refine swp_seq fun K4 hK4 => ?_
  refine swp_seq fun K5 hK5 => ?_
  refine swp_region ty_ok ?_
  try simp (maxSteps := 1000000) [bookV]
  repeat' (first | apply And.intro | intro _)
  any_goals (first | (refine hK5 _ ?_; clear hK5) | (first | omega | (simp only [IntKind.wrap_i64] at *; omega) | (simp_all; done) | (simp_all; omega)))
  refine swp_if fun C6 hC6 => ?_
  try simp (maxSteps := 1000000) [bookV]
  refine hC6 _ (fun hc6 => ?_) (fun hc6 => ?_)
  · clear hC6
    try simp at hc6
    refine swp_seq fun K7 hK7 => ?_
    refine swp_region ty_ok ?_
    try simp (maxSteps := 1000000) [bookV]
    repeat' (first | apply And.intro | intro _)
    any_goals (first | (refine hK7 _ ?_; clear hK7) | (first | omega | (simp only [IntKind.wrap_i64] at *; omega) | (simp_all; done) | (simp_all; omega)))
    refine swp_ret ?_
    simp [fnPost, Try.results7, resP, tupOf]
  · clear hC6
    try simp at hc6
    refine swp_skip ?_
    try simp only [thn, inBlk]
    refine hK4 _ ?_; clear hK4
    refine swp_seq fun K8 hK8 => ?_
    refine swp_region ty_ok ?_
    try simp (maxSteps := 1000000) [bookV, hxt, hxa, hxb, hxw]
    repeat' (first | apply And.intro | intro _)
    any_goals (first | (refine hK8 _ ?_; clear hK8) | (first | omega | (simp only [IntKind.wrap_i64] at *; omega) | (simp_all; done) | (simp_all; omega)))
    refine swp_seq fun K9 hK9 => ?_
    refine swp_region ty_ok ?_
    refine runs_cut 1 fun R10 hR10 => ?_
    try simp (maxSteps := 1000000) [bookV, List.take_succ_cons, List.take_zero, List.drop_succ_cons, List.drop_zero]
    repeat' (first | apply And.intro | intro _)
    any_goals (first | (refine hR10 _ ?_; clear hR10) | (first | omega | (simp only [IntKind.wrap_i64] at *; omega) | (simp_all; done) | (simp_all; omega)))
    refine runs_cut 1 fun R11 hR11 => ?_
    try simp (maxSteps := 1000000) [bookV, List.take_succ_cons, List.take_zero, List.drop_succ_cons, List.drop_zero]
    refine .inl ⟨_, get_book i h1 (by omega), ?_⟩
    try simp (maxSteps := 1000000) [bookV]
    repeat' (first | apply And.intro | intro _)
    any_goals (first | (refine hR11 _ ?_; clear hR11) | (first | omega | (simp only [IntKind.wrap_i64] at *; omega) | (simp_all; done) | (simp_all; omega)))
    try simp (maxSteps := 1000000) [bookV, List.take_succ_cons, List.take_zero, List.drop_succ_cons, List.drop_zero]
    repeat' (first | apply And.intro | intro _)
    any_goals (first | (refine hK9 _ ?_; clear hK9) | (first | omega | (simp only [IntKind.wrap_i64] at *; omega) | (simp_all; done) | (simp_all; omega)))
    refine swp_seq fun K12 hK12 => ?_
    refine swp_region ty_ok ?_
    try simp (maxSteps := 1000000) [bookV]
    repeat' (first | apply And.intro | intro _)
    any_goals (first | (refine hK12 _ ?_; clear hK12) | (first | omega | (simp only [IntKind.wrap_i64] at *; omega) | (simp_all; done) | (simp_all; omega)))
    refine swp_seq fun K13 hK13 => ?_
    refine swp_seq fun K14 hK14 => ?_
    refine swp_region ty_ok ?_
    try simp (maxSteps := 1000000) [bookV]
    repeat' (first | apply And.intro | intro _)
    any_goals (first | (refine hK14 _ ?_; clear hK14) | (first | omega | (simp only [IntKind.wrap_i64] at *; omega) | (simp_all; done) | (simp_all; omega)))
    refine swp_block ?_
    refine swp_own 9 3 (by simp [getT]; rfl) rfl ?_
    refine swp_loop 2 (fun m_ s_ => ∃ (k : Nat), (k ≤ vs.length) ∧ s_ = ⟨[(1, .ro (.ints .i64 vs)), (5, .bool true), (6, .int .i64 (i : Nat)), (7, .ptr 0 0 0 1), (8, .int .i64 0), (9, .sl 1 0 k k), (10, .int .i64 (k : Nat))], [(0, some ⟨.rows 4 [[.int .i64 (i : Nat), .int .i64 (bPlain i : Nat), .ro (.ints .i64 (bE i)), .ro (.ints .i64 (bR i))]], true, 25⟩), (1, some ⟨.ints .i64 ((vs.take k).map tv), false, 3⟩)], 2⟩ ∧ m_ = vs.length - k) _ ⟨[(1, .ro (.ints .i64 vs)), (5, .bool true), (6, .int .i64 (i : Nat)), (7, .ptr 0 0 0 1), (8, .int .i64 0), (9, .sl 1 0 0 0), (10, .int .i64 (0 : Nat))], [(0, some ⟨.rows 4 [[.int .i64 (i : Nat), .int .i64 (bPlain i : Nat), .ro (.ints .i64 (bE i)), .ro (.ints .i64 (bR i))]], true, 25⟩), (1, some ⟨.ints .i64 ((vs.take 0).map tv), false, 3⟩)], 2⟩ ⟨by simp [getT, PV.lo, lo1], by simp [getH, Blk.lo, Cells.lo, lo1], rfl, by omega⟩ ⟨(0), by (first | omega | (simp only [IntKind.wrap_i64] at *; omega) | (simp_all; done) | (simp_all; omega)), rfl, rfl⟩ ?_
    rintro m_ s_ ⟨k, hL15_0, rfl, rfl⟩ KL15 hL15
    have hkw := wnext (i := k) (by omega)
    refine swp_seq fun K16 hK16 => ?_
    refine swp_seq fun K17 hK17 => ?_
    refine swp_region ty_ok ?_
    try simp (maxSteps := 1000000) [bookV]
    repeat' (first | apply And.intro | intro _)
    any_goals (first | (refine hK17 _ ?_; clear hK17) | (first | omega | (simp only [IntKind.wrap_i64] at *; omega) | (simp_all; done) | (simp_all; omega)))
    refine swp_if fun C18 hC18 => ?_
    try simp (maxSteps := 1000000) [bookV]
    refine hC18 _ (fun hc18 => ?_) (fun hc18 => ?_)
    · clear hC18
      try simp at hc18
      refine swp_skip ?_
      try simp only [thn, inBlk]
      refine hK16 _ ?_; clear hK16
      refine swp_seq fun K19 hK19 => ?_
      refine swp_block ?_
      have hkl : k < vs.length := (by have h := hc18; omega)
      have happ : (vs.take k).map tv ++ [tv (vs[k]?.getD 0)] = (vs.take (k + 1)).map tv := by rw [take_snocI hkl, List.map_append]; rfl
      have happ2 : List.take k (List.map tv vs) ++ [tv (vs[k]?.getD 0)] = List.take (k + 1) (List.map tv vs) := by rw [← List.map_take, happ, List.map_take]
      have hneg : IntKind.i64.wrap (-(vs[k]?.getD 0)) = tv (vs[k]?.getD 0) := rfl
      have hlk : ((vs.take k).map tv).length = k := by rw [List.length_map, List.length_take]; omega
      refine swp_region ty_ok ?_
      refine runs_cut 6 fun R20 hR20 => ?_
      try simp (maxSteps := 1000000) [bookV, hneg, happ2, List.take_succ_cons, List.take_zero, List.drop_succ_cons, List.drop_zero]
      repeat' (first | apply And.intro | intro _)
      any_goals (first | (refine hR20 _ ?_; clear hR20) | (first | omega | (simp only [IntKind.wrap_i64] at *; omega) | (simp_all; done) | (simp_all; omega)))
      refine runs_cut 1 fun R21 hR21 => ?_
      try simp (maxSteps := 1000000) [bookV, hneg, happ2, List.take_succ_cons, List.take_zero, List.drop_succ_cons, List.drop_zero]
      repeat' (first | apply And.intro | intro _)
      any_goals (first | (refine Or.inl (hR21 _ ?_); clear hR21) | (first | omega | (simp only [IntKind.wrap_i64] at *; omega) | (simp_all; done) | (simp_all; omega)))
      try simp (maxSteps := 1000000) [bookV, hneg, happ2, List.take_succ_cons, List.take_zero, List.drop_succ_cons, List.drop_zero]
      repeat' (first | apply And.intro | intro _)
      any_goals (first | (refine hK19 _ ?_; clear hK19) | (first | omega | (simp only [IntKind.wrap_i64] at *; omega) | (simp_all; done) | (simp_all; omega)))
      refine swp_region ty_ok ?_
      try simp (maxSteps := 1000000) [bookV]
      repeat' apply And.intro
      any_goals (try omega)
      refine hL15 _ ⟨[(1, .ro (.ints .i64 vs)), (5, .bool true), (6, .int .i64 (i : Nat)), (7, .ptr 0 0 0 1), (8, .int .i64 0), (9, .sl 1 0 (k + 1) (k + 1)), (10, .int .i64 ((k + 1) : Nat))], [(0, some ⟨.rows 4 [[.int .i64 (i : Nat), .int .i64 (bPlain i : Nat), .ro (.ints .i64 (bE i)), .ro (.ints .i64 (bR i))]], true, 25⟩), (1, some ⟨.ints .i64 ((vs.take (k + 1)).map tv), false, 3⟩)], 2⟩ _ ?_ ⟨(k + 1), by (first | omega | (simp only [IntKind.wrap_i64] at *; omega) | (simp_all; done) | (simp_all; omega)), rfl, rfl⟩ ⟨by simp [getT, PV.lo, lo1, hkw], by simp [getH, Blk.lo, Cells.lo, lo1, happ2], rfl, by omega⟩
      omega
    · clear hC18
      try simp at hc18
      refine swp_exit ?_
      simp [thn, inBlk]
      refine hK13 _ ?_; clear hK13
      refine swp_seq fun K22 hK22 => ?_
      have hke : k = vs.length := (by omega)
      subst hke
      refine swp_region ty_ok ?_
      refine runs_cut 2 fun R23 hR23 => ?_
      try simp (maxSteps := 1000000) [bookV, List.take_succ_cons, List.take_zero, List.drop_succ_cons, List.drop_zero]
      repeat' (first | apply And.intro | intro _)
      any_goals (first | (refine hR23 _ ?_; clear hR23) | (first | omega | (simp only [IntKind.wrap_i64] at *; omega) | (simp_all; done) | (simp_all; omega)))
      refine runs_cut 1 fun R24 hR24 => ?_
      try simp (maxSteps := 1000000) [bookV, List.take_succ_cons, List.take_zero, List.drop_succ_cons, List.drop_zero]
      refine .inl ⟨_, fits_ok i h1 h2 vs hd, ?_⟩
      try simp (maxSteps := 1000000) [bookV]
      repeat' (first | apply And.intro | intro _)
      any_goals (first | (refine hR24 _ ?_; clear hR24) | (first | omega | (simp only [IntKind.wrap_i64] at *; omega) | (simp_all; done) | (simp_all; omega)))
      try simp (maxSteps := 1000000) [bookV, List.take_succ_cons, List.take_zero, List.drop_succ_cons, List.drop_zero]
      repeat' (first | apply And.intro | intro _)
      any_goals (first | (refine hK22 _ ?_; clear hK22) | (first | omega | (simp only [IntKind.wrap_i64] at *; omega) | (simp_all; done) | (simp_all; omega)))
      refine swp_seq fun K25 hK25 => ?_
      refine swp_region ty_ok ?_
      refine runs_cut 2 fun R26 hR26 => ?_
      try simp (maxSteps := 1000000) [bookV, htk, List.take_succ_cons, List.take_zero, List.drop_succ_cons, List.drop_zero]
      repeat' (first | apply And.intro | intro _)
      any_goals (first | (refine hR26 _ ?_; clear hR26) | (first | omega | (simp only [IntKind.wrap_i64] at *; omega) | (simp_all; done) | (simp_all; omega)))
      refine runs_cut 1 fun R27 hR27 => ?_
      try simp (maxSteps := 1000000) [bookV, htk, List.take_succ_cons, List.take_zero, List.drop_succ_cons, List.drop_zero]
      refine .inl ⟨_, fits_ok i h1 h2 (vs.map tv) (by rw [hml]; exact hd), ?_⟩
      try simp (maxSteps := 1000000) [bookV, htk]
      repeat' (first | apply And.intro | intro _)
      any_goals (first | (refine hR27 _ ?_; clear hR27) | (first | omega | (simp only [IntKind.wrap_i64] at *; omega) | (simp_all; done) | (simp_all; omega)))
      try simp (maxSteps := 1000000) [bookV, htk, List.take_succ_cons, List.take_zero, List.drop_succ_cons, List.drop_zero]
      repeat' (first | apply And.intro | intro _)
      any_goals (first | (refine hK25 _ ?_; clear hK25) | (first | omega | (simp only [IntKind.wrap_i64] at *; omega) | (simp_all; done) | (simp_all; omega)))
      refine swp_seq fun K28 hK28 => ?_
      refine swp_region ty_ok ?_
      refine runs_cut 2 fun R29 hR29 => ?_
      try simp (maxSteps := 1000000) [bookV, List.take_succ_cons, List.take_zero, List.drop_succ_cons, List.drop_zero]
      repeat' (first | apply And.intro | intro _)
      any_goals (first | (refine hR29 _ ?_; clear hR29) | (first | omega | (simp only [IntKind.wrap_i64] at *; omega) | (simp_all; done) | (simp_all; omega)))
      refine runs_cut 1 fun R30 hR30 => ?_
      try simp (maxSteps := 1000000) [bookV, List.take_succ_cons, List.take_zero, List.drop_succ_cons, List.drop_zero]
      refine .inl ⟨_, hcost_fit i h1 h2 vs hd hf, ?_⟩
      try simp (maxSteps := 1000000) [bookV]
      repeat' (first | apply And.intro | intro _)
      any_goals (first | (refine hR30 _ ?_; clear hR30) | (first | omega | (simp only [IntKind.wrap_i64] at *; omega) | (simp_all; done) | (simp_all; omega)))
      try simp (maxSteps := 1000000) [bookV, List.take_succ_cons, List.take_zero, List.drop_succ_cons, List.drop_zero]
      repeat' (first | apply And.intro | intro _)
      any_goals (first | (refine hK28 _ ?_; clear hK28) | (first | omega | (simp only [IntKind.wrap_i64] at *; omega) | (simp_all; done) | (simp_all; omega)))
      refine swp_seq fun K31 hK31 => ?_
      refine swp_region ty_ok ?_
      refine runs_cut 2 fun R32 hR32 => ?_
      try simp (maxSteps := 1000000) [bookV, List.take_succ_cons, List.take_zero, List.drop_succ_cons, List.drop_zero]
      repeat' (first | apply And.intro | intro _)
      any_goals (first | (refine hR32 _ ?_; clear hR32) | (first | omega | (simp only [IntKind.wrap_i64] at *; omega) | (simp_all; done) | (simp_all; omega)))
      refine runs_cut 1 fun R33 hR33 => ?_
      try simp (maxSteps := 1000000) [bookV, List.take_succ_cons, List.take_zero, List.drop_succ_cons, List.drop_zero]
      refine .inl ⟨_, hcost_fit i h1 h2 (vs.map tv) (by rw [hml]; exact hd) (by rw [hft]; exact hf), ?_⟩
      try simp (maxSteps := 1000000) [bookV]
      repeat' (first | apply And.intro | intro _)
      any_goals (first | (refine hR33 _ ?_; clear hR33) | (first | omega | (simp only [IntKind.wrap_i64] at *; omega) | (simp_all; done) | (simp_all; omega)))
      try simp (maxSteps := 1000000) [bookV, List.take_succ_cons, List.take_zero, List.drop_succ_cons, List.drop_zero]
      repeat' (first | apply And.intro | intro _)
      any_goals (first | (refine hK31 _ ?_; clear hK31) | (first | omega | (simp only [IntKind.wrap_i64] at *; omega) | (simp_all; done) | (simp_all; omega)))
      refine swp_seq fun K34 hK34 => ?_
      refine swp_seq fun K35 hK35 => ?_
      refine swp_region ty_ok ?_
      refine runs_cut 8 fun R36 hR36 => ?_
      try simp (maxSteps := 1000000) [bookV, List.take_succ_cons, List.take_zero, List.drop_succ_cons, List.drop_zero]
      repeat' (first | apply And.intro | intro _)
      any_goals (first | (refine hR36 _ ?_; clear hR36) | (first | omega | (simp only [IntKind.wrap_i64] at *; omega) | (simp_all; done) | (simp_all; omega)))
      try simp (maxSteps := 1000000) [bookV, List.take_succ_cons, List.take_zero, List.drop_succ_cons, List.drop_zero]
      repeat' (first | apply And.intro | intro _)
      any_goals (first | (refine hK35 _ ?_; clear hK35) | (first | omega | (simp only [IntKind.wrap_i64] at *; omega) | (simp_all; done) | (simp_all; omega)))
      refine swp_if fun C37 hC37 => ?_
      try simp (maxSteps := 1000000) [bookV]
      refine hC37 _ (fun hc37 => ?_) (fun hc37 => ?_)
      · exact absurd hc37 (by simp [hft])
      · clear hC37
        try simp at hc37
        refine swp_skip ?_
        try simp only [thn, inBlk]
        refine hK34 _ ?_; clear hK34
        refine swp_seq fun K38 hK38 => ?_
        refine swp_region ty_ok ?_
        refine runs_cut 8 fun R39 hR39 => ?_
        try simp (maxSteps := 1000000) [bookV, List.take_succ_cons, List.take_zero, List.drop_succ_cons, List.drop_zero]
        repeat' (first | apply And.intro | intro _)
        any_goals (first | (refine hR39 _ ?_; clear hR39) | (first | omega | (simp only [IntKind.wrap_i64] at *; omega) | (simp_all; done) | (simp_all; omega)))
        try simp (maxSteps := 1000000) [bookV, List.take_succ_cons, List.take_zero, List.drop_succ_cons, List.drop_zero]
        repeat' (first | apply And.intro | intro _)
        any_goals (first | (refine hK38 _ ?_; clear hK38) | (first | omega | (simp only [IntKind.wrap_i64] at *; omega) | (simp_all; done) | (simp_all; omega)))
        refine swp_ret ?_
        simp [fnPost, Try.results7, resP, tupOf]
        by_cases hs : hSig i = true
        · left
          unfold hSig at hs
          simp at hs
          omega
        · right
          rw [huffL_tv h1 h2 hf (by simpa using hs)]

end Go.Proofs.Ytgheplondkoedaa

