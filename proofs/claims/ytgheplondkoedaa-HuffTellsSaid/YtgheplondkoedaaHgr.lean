import Derived.Test.YtgheplondkoedaaWf
import Derived.Test.YtgheplondkoedaaTyh
import Derived.Test.YtgheplondkoedaaBkq
import Derived.Test.YtgheplondkoedaaHsrt
import Derived.Test.YtgheplondkoedaaHbk
import Derived.Test.YtgheplondkoedaaHbk2
import Derived.Test.YtgheplondkoedaaHbk3
import Derived.Test.YtgheplondkoedaaHbits
import Derived.Test.YtgheplondkoedaaHrd
import Derived.Test.YtgheplondkoedaaHrdq
import Derived.Test.YtgheplondkoedaaHbits2
import Derived.Test.YtgheplondkoedaaHbk4
import Derived.Test.YtgheplondkoedaaHbk5
import Derived.Test.YtgheplondkoedaaHbk6
import Derived.Test.YtgheplondkoedaaHbk8
import Derived.Test.YtgheplondkoedaaHbk9
import Derived.Test.YtgheplondkoedaaHgrow
import Derived.Test.YtgheplondkoedaaHst
import Derived.Test.YtgheplondkoedaaHrep
import Derived.Test.YtgheplondkoedaaHputh
import Derived.Test.YtgheplondkoedaaHft
import Derived.Test.YtgheplondkoedaaHpt
import Derived.Test.YtgheplondkoedaaHsg
import Derived.Test.YtgheplondkoedaaHgh
import Derived.Test.YtgheplondkoedaaHgb
import Derived.Test.YtgheplondkoedaaHgt
namespace Go.Proofs.Ytgheplondkoedaa
set_option linter.unusedVariables false
set_option linter.unusedSimpArgs false
set_option maxRecDepth 10000
open Go Go.Pv

open Go.RowKit
def reV (b : List Int) (p : Int) : Int := if (eS b (p, 0)).2 = 0 then eV b (p, 0) else 0
def reP (b : List Int) (p : Int) : Int := if (eF b (p, 0)).2 = 0 then (eF b (p, 0)).1 else 0
theorem re_ok {b : List Int} {p : Int} (h : (eF b (p, 0)).2 = 0) : reV b p = eV b (p, 0) ∧ eF b (p, 0) = (reP b p, 0) := by
 have hs : (eS b (p, 0)).2 = 0 := (rG_S (show (rG b (eS b (p, 0)) _).2 = 0 from h)).1
 refine ⟨if_pos hs, ?_⟩
 unfold reP
 rw [if_pos h]
 exact Prod.ext rfl h
theorem re_1 {b : List Int} {a p : Int} {k : Nat} (hk : k ≤ 8) (hq : eQ b (a, 0) k = (p, 0)) (hc : eC b (a, 0) k) (he : ¬ getE b p 1 = 0) : reV b a = 0 ∧ reP b a = 0 ∧ (eF b (a, 0)).2 = getE b p 1 := by
 have hM : eM b (a, 0) = k := eM_at hk hc (by rw [hq, rN_go 1 rfl, getN_no he]; omega)
 have hS : eS b (a, 0) = (p, getE b p 1) := by unfold eS; rw [hM, eR_lo hk, hq]; exact rG_no rfl he
 have hF : eF b (a, 0) = (p, getE b p 1) := by unfold eF; rw [hS]; exact rG_err _ he
 unfold reV reP
 rw [hS, hF, if_neg he, if_neg he]
 exact ⟨rfl, rfl, rfl⟩
theorem re_2 {b : List Int} {a : Int} (hc : eC b (a, 0) 9) : reV b a = 0 ∧ reP b a = 0 ∧ (eF b (a, 0)).2 = 8 := by
 have hM : eM b (a, 0) = 9 := eM_nine hc
 have h8 : ¬ (8 : Int) = 0 := by omega
 have hS : eS b (a, 0) = ((eQ b (a, 0) 9).1, 8) := by unfold eS; rw [hM]; unfold eR; rw [if_pos rfl]; exact rG_err _ h8
 have hF : eF b (a, 0) = ((eQ b (a, 0) 9).1, 8) := by unfold eF; rw [hS]; exact rG_err _ h8
 unfold reV reP
 rw [hS, hF, if_neg h8, if_neg h8]
 exact ⟨rfl, rfl, rfl⟩
theorem re_3 {b : List Int} {a p : Int} {k : Nat} (hk : k ≤ 8) (hq : eQ b (a, 0) k = (p, 0)) (hc : eC b (a, 0) k) (he : getE b p 1 = 0) (hn : getN b p 1 = 0) : reV b a = getN b (getP b p 1) ((k : Int) + 4) + (twoN (k + 4) : Nat) ∧ reP b a = getP b (getP b p 1) ((k : Int) + 4) ∧ (eF b (a, 0)).2 = getE b (getP b p 1) ((k : Int) + 4) := by
 have hM : eM b (a, 0) = k := eM_at hk hc (by rw [hq, rN_go 1 rfl, hn]; omega)
 have hS : eS b (a, 0) = (getP b p 1, 0) := by unfold eS; rw [hM, eR_lo hk, hq]; exact rG_yes rfl he
 refine ⟨?_, ?_, ?_⟩
 ·unfold reV eV
  rw [hS, if_pos rfl, hM, rN_go _ rfl]
  exact Int.add_comm _ _
 ·unfold reP eF
  rw [hS, hM]
  by_cases h : getE b (getP b p 1) ((k : Int) + 4) = 0
  ·rw [rG_yes rfl h]; rfl
  ·rw [rG_no rfl h, if_neg h, getP_no h]
 ·unfold eF
  rw [hS, hM, rG_e, if_pos rfl]
theorem eQ_go {b : List Int} {a p : Int} {k : Nat} (hq : eQ b (a, 0) k = (p, 0)) (hc : eC b (a, 0) k) (he : getE b p 1 = 0) (hn : getN b p 1 = 1) : eQ b (a, 0) (k + 1) = (getP b p 1, 0) ∧ eC b (a, 0) (k + 1) := by
 refine ⟨?_, eC_succ hc (by rw [hq, rN_go 1 rfl, hn])⟩
 rw [eQ, hq]
 exact rG_yes rfl he
theorem sq_go {b vs : List Int} {q : Int × Int} {k : Nat} {p : Int} (hQ : sQ b vs q k = (p, 0)) (h : ¬ vs[k]?.getD 0 = 0) (hE : getE b p 1 = 0) : sQ b vs q (k + 1) = (getP b p 1, 0) ∧ sV b vs q (k + 1) = sV b vs q k ++ [getN b p 1] := by
 obtain ⟨h1, h2⟩ := s_nz (b := b) (q := q) h
 rw [h1, h2, hQ, rN_go 1 rfl]
 exact ⟨rG_yes rfl hE, rfl⟩
theorem sq_z {b vs : List Int} {q : Int × Int} {k : Nat} {p : Int} (hQ : sQ b vs q k = (p, 0)) (h : vs[k]?.getD 0 = 0) : sQ b vs q (k + 1) = (p, 0) ∧ sV b vs q (k + 1) = sV b vs q k ++ [0] := by
 rw [sQ, sV, sB, if_pos h, if_pos h]
 exact ⟨hQ, rfl⟩
theorem sq_no {b vs : List Int} {q : Int × Int} {k : Nat} {p : Int} (hQ : sQ b vs q k = (p, 0)) (h : ¬ vs[k]?.getD 0 = 0) (hE : ¬ getE b p 1 = 0) : (sQ b vs q (k + 1)).2 = getE b p 1 := by
 obtain ⟨h1, h2⟩ := s_nz (b := b) (q := q) h
 rw [h1, hQ, rG_no rfl hE]
theorem hg_e2 {i : Nat} {b : List Int} {a : Int} {V : List Int} {n k : Nat} {E : Int} (hv : hgL i b a = V) (hl : V.length = n) (hf : fdE (bPlain i) (bMany i) b a = 0) (hs : hSig i = false) (hk : k ≤ n) (h : (sQ b V (fdP (bPlain i) (bE i) b a, 0) k).2 = E) (hE : ¬ E = 0) : hgV i b a = [] ∧ hgP i b a = 0 ∧ hgE i b a = E := by
 obtain ⟨f1, _⟩ := hgQ_eq hv hl
 have h1 : ¬ (sQ b V (fdP (bPlain i) (bE i) b a, 0) k).2 = 0 := by rw [h]; exact hE
 rw [sQ_err hk h1, vQ_err (k := 0) (Nat.zero_le _) h1] at f1
 have f2 : (hgQ i b a).2 = E := by rw [f1]; exact h
 have := hg_e hf hs (by rw [f2]; exact hE)
 rwa [f2] at this
theorem hg_e3 {i : Nat} {b : List Int} {a : Int} {V : List Int} {n k : Nat} {E : Int} (hv : hgL i b a = V) (hl : V.length = n) (hf : fdE (bPlain i) (bMany i) b a = 0) (hs : hSig i = false) (hk : k ≤ n) (h : (vQ b i V (sQ b V (fdP (bPlain i) (bE i) b a, 0) n) k).2 = E) (hE : ¬ E = 0) : hgV i b a = [] ∧ hgP i b a = 0 ∧ hgE i b a = E := by
 obtain ⟨f1, _⟩ := hgQ_eq hv hl
 rw [vQ_err hk (by rw [h]; exact hE)] at f1
 have f2 : (hgQ i b a).2 = E := by rw [f1]; exact h
 have := hg_e hf hs (by rw [f2]; exact hE)
 rwa [f2] at this
theorem vq_c {b : List Int} {i : Nat} {vs : List Int} {q : Int × Int} {k : Nat} {p : Int} (hQ : vQ b i vs q k = (p, 0)) (hc : vC i vs k) : vQ b i vs q (k + 1) = eF b (p, 0) := by
 rw [vQ, if_pos hc, hQ]
theorem vq_n {b : List Int} {i : Nat} {vs : List Int} {q : Int × Int} {k : Nat} {p : Int} (hQ : vQ b i vs q k = (p, 0)) (hc : ¬ vC i vs k) : vQ b i vs q (k + 1) = (p, 0) := by
 rw [vQ, if_neg hc, hQ]
theorem fit_go {i : Nat} {vs : List Int} {k : Nat} (hk : k < vs.length) (h : hFit i (vs.take k) = true) (h2 : vs[k]?.getD 0 ≤ hMost i ∧ -hMost i ≤ vs[k]?.getD 0) : hFit i (vs.take (k + 1)) = true := by
 unfold hFit at h ⊢
 rw [take_snocI hk, List.all_append, h]
 simp [fitV]
 omega
theorem fit_stop {i : Nat} {vs : List Int} {k : Nat} (hk : k < vs.length) (h2 : hMost i < vs[k]?.getD 0 ∨ vs[k]?.getD 0 < -hMost i) : hFit i vs = false := by
 cases hf : hFit i vs with
 | false => rfl
 | true =>
  have hm : vs[k]?.getD 0 ∈ vs := by rw [List.getElem?_eq_getElem hk]; exact List.getElem_mem hk
  have := List.all_eq_true.1 hf _ hm
  unfold fitV at this
  have := of_decide_eq_true this
  omega
theorem e_more {n m j : Nat} (hm : m ≤ 8) (h2 : n < 2 ^ (m + 4 + 1)) (h : ((2 ^ (j + 5) : Nat) : Int) ≤ n) : j < m := by
 rcases Nat.lt_or_ge j m with h9 | h9
 ·exact h9
 ·have h1 : 2 ^ (m + 5) ≤ 2 ^ (j + 5) := Nat.pow_le_pow_right (by omega) (by omega)
  have h4 : 2 ^ (m + 4 + 1) = 2 ^ (m + 5) := rfl
  omega
theorem e_last {n m j : Nat} (hm : m ≤ 8) (h1 : 2 ^ (m + 4) ≤ n) (hj : j ≤ m) (h : (n : Int) < ((2 ^ (j + 5) : Nat) : Int)) : j = m := by
 rcases Nat.lt_or_ge j m with h9 | h9
 ·have h2 : 2 ^ (j + 5) ≤ 2 ^ (m + 4) := Nat.pow_le_pow_right (by omega) (by omega)
  omega
 ·omega
theorem sig_low {i : Nat} (h1 : 1 ≤ i) (h2 : i ≤ 11) : decide (bLow i < 0) = hSig i := by
 have hF := hkF h1 h2
 have hm := hF.m
 cases hs : hSig i with
 | true => have := (hF.s hs).1; rw [decide_eq_true_eq]; omega
 | false => have := (hF.u hs).1; rw [decide_eq_false_iff_not]; omega
theorem most_at {i : Nat} (h1 : 1 ≤ i) (h2 : i ≤ 11) : ([0, 1, 1, 2, 2, 4, 4, 7, 7, 12, 12, 8191] : List Int)[i]?.getD 0 = hMost i := rfl
theorem reV_bd {b : List Int} (hp : ∀ y ∈ b, 0 ≤ y) (p : Int) : 0 ≤ reV b p ∧ reV b p ≤ 16383 := by
 have := eV_bd hp (p, 0)
 unfold reV
 split <;> omega

attribute [local simp] runs gd step1 need evu un opnds opv ev cst cst1 cstL getT getH putT onL nxt argT cellsOf PV.one thn inBlk jmp fldP ldP ldC live Cells.len Cells.get Cells.w sug ldv bin eqF eq1 ops2 sh2 binv Tk.agg stC apC rdS apS cpC cpS mvL zp argsP idx fillP toInts chunks mkC ixS ixA oidx slP sl0 slA optL List.append mxF bltn frzA frz frzL frz1 pur1 Cells.pur PV.scal scal1 runD rdO PV.ids id1 zids ety Eff.on cnd minb and1b ifmax ifmin mxv sugI strv w0 w1 w2 wm1
theorem resc_ok (b : List Int) (at_ : Int) (hb : b.length ≤ 140737488355328) (hp : ∀ k : Nat, 0 ≤ b[k]?.getD 0 ∧ b[k]?.getD 0 ≤ 255) (hat : -9223372036854775808 ≤ at_ ∧ at_ ≤ 9223372036854775807) : PCall Try.prog 101 [.ro (.ints .u8 b), .int .i64 at_] (.tup [.int .i64 (reV b at_), .int .i64 (reP b at_), .int .i64 (eF b (at_, 0)).2]) := by
 refine pcall_body ty_ok Try.func101 rfl (by rfl) (by simp) ?_
 rw [Try.ntmps101]
 refine swp_seq fun K1 hK1 => ?_
 refine swp_region ty_ok ?_
 try simp (maxSteps := 1000000)
 repeat' (first | apply And.intro | intro _)
 any_goals (first | (refine hK1 _ ?_; clear hK1) | (first | omega | (simp only [IntKind.wrap_i64] at *; omega) | (simp_all; done) | (simp_all; omega)))
 refine swp_seq fun K2 hK2 => ?_
 refine swp_region ty_ok ?_
 try simp (maxSteps := 1000000)
 repeat' (first | apply And.intro | intro _)
 any_goals (first | (refine hK2 _ ?_; clear hK2) | (first | omega | (simp only [IntKind.wrap_i64] at *; omega) | (simp_all; done) | (simp_all; omega)))
 refine swp_seq fun K3 hK3 => ?_
 refine swp_block ?_
 refine swp_loop 0 (fun m_ s_ => ∃ (k : Nat) (p : Int), (k ≤ 8) ∧ (-9223372036854775808 ≤ p ∧ p ≤ 9223372036854775807) ∧ (eQ b (at_, 0) k = (p, 0)) ∧ (eC b (at_, 0) k) ∧ s_ = ⟨[(0, .ro (.ints .u8 b)), (1, .int .i64 p), (7, .int .i64 (k : Nat))], [], 0⟩ ∧ m_ = 9 - k) _ ⟨[(0, .ro (.ints .u8 b)), (1, .int .i64 at_), (7, .int .i64 (0 : Nat))], [], 0⟩ ⟨by simp [getT, PV.lo, lo1], by simp [getH, Blk.lo, Cells.lo, lo1], rfl, by omega⟩ ⟨(0), (at_), by omega, by exact hat, by rfl, by exact eC_zero _ _, rfl, rfl⟩ ?_
 rintro m_ s_ ⟨k, p, hL4_0, hL4_1, hL4_2, hL4_3, rfl, rfl⟩ KL4 hL4
 have hkw := wnext (i := k) (by omega)
 have hpb := (by assumption : -9223372036854775808 ≤ p ∧ p ≤ 9223372036854775807)
 have hQ := (by assumption : eQ b (at_, 0) k = (p, 0))
 have hC := (by assumption : eC b (at_, 0) k)
 refine swp_block ?_
 refine swp_seq fun K5 hK5 => ?_
 refine swp_region ty_ok ?_
 refine runs_cut 2 fun R6 hR6 => ?_
 try simp (maxSteps := 1000000) [List.take_succ_cons, List.take_zero, List.drop_succ_cons, List.drop_zero]
 repeat' (first | apply And.intro | intro _)
 any_goals (first | (refine hR6 _ ?_; clear hR6) | (first | omega | (simp only [IntKind.wrap_i64] at *; omega) | (simp_all; done) | (simp_all; omega)))
 refine runs_cut 1 fun R7 hR7 => ?_
 try simp (maxSteps := 1000000) [List.take_succ_cons, List.take_zero, List.drop_succ_cons, List.drop_zero]
 refine .inl ⟨_, rget_ok b p 1 hb hp hpb, ?_⟩
 try simp (maxSteps := 1000000)
 repeat' (first | apply And.intro | intro _)
 any_goals (first | (refine hR7 _ ?_; clear hR7) | (first | omega | (simp only [IntKind.wrap_i64] at *; omega) | (simp_all; done) | (simp_all; omega)))
 try simp (maxSteps := 1000000) [List.take_succ_cons, List.take_zero, List.drop_succ_cons, List.drop_zero]
 repeat' (first | apply And.intro | intro _)
 any_goals (first | (refine hK5 _ ?_; clear hK5) | (first | omega | (simp only [IntKind.wrap_i64] at *; omega) | (simp_all; done) | (simp_all; omega)))
 refine swp_seq fun K8 hK8 => ?_
 refine swp_seq fun K9 hK9 => ?_
 refine swp_region ty_ok ?_
 try simp (maxSteps := 1000000)
 repeat' (first | apply And.intro | intro _)
 any_goals (first | (refine hK9 _ ?_; clear hK9) | (first | omega | (simp only [IntKind.wrap_i64] at *; omega) | (simp_all; done) | (simp_all; omega)))
 refine swp_if fun C10 hC10 => ?_
 try simp (maxSteps := 1000000)
 refine hC10 _ (fun hc10 => ?_) (fun hc10 => ?_)
 ·clear hC10
  try simp at hc10
  refine swp_seq fun K11 hK11 => ?_
  refine swp_region ty_ok ?_
  try simp (maxSteps := 1000000)
  repeat' (first | apply And.intro | intro _)
  any_goals (first | (refine hK11 _ ?_; clear hK11) | (first | omega | (simp only [IntKind.wrap_i64] at *; omega) | (simp_all; done) | (simp_all; omega)))
  refine swp_ret ?_
  simp [fnPost, Try.results101, resP, tupOf]
  exact re_1 (by assumption) hQ hC hc10
 ·clear hC10
  try simp at hc10
  refine swp_skip ?_
  try simp only [thn, inBlk]
  refine hK8 _ ?_; clear hK8
  refine swp_seq fun K12 hK12 => ?_
  have hE := hc10
  refine swp_region ty_ok ?_
  try simp (maxSteps := 1000000)
  repeat' (first | apply And.intro | intro _)
  any_goals (first | (refine hK12 _ ?_; clear hK12) | (first | omega | (simp only [IntKind.wrap_i64] at *; omega) | (simp_all; done) | (simp_all; omega)))
  refine swp_seq fun K13 hK13 => ?_
  refine swp_seq fun K14 hK14 => ?_
  refine swp_region ty_ok ?_
  try simp (maxSteps := 1000000)
  repeat' (first | apply And.intro | intro _)
  any_goals (first | (refine hK14 _ ?_; clear hK14) | (first | omega | (simp only [IntKind.wrap_i64] at *; omega) | (simp_all; done) | (simp_all; omega)))
  refine swp_if fun C15 hC15 => ?_
  try simp (maxSteps := 1000000)
  refine hC15 _ (fun hc15 => ?_) (fun hc15 => ?_)
  ·clear hC15
   try simp at hc15
   refine swp_exit ?_
   simp [thn, inBlk]
   refine hK3 _ ?_; clear hK3
   refine swp_seq fun K16 hK16 => ?_
   have hn0 := hc15
   have hk4 : IntKind.i64.wrap ((k : Int) + 4) = (k : Int) + 4 := w64 (by omega)
   obtain ⟨r1, r2, r3⟩ := re_3 (by assumption) hQ hC hE hn0
   have hrb := reV_bd (nn hp) at_
   have hrw : IntKind.i64.wrap (getN b (getP b p 1) ((k : Int) + 4) + (twoN (k + 4) : Nat)) = reV b at_ := by rw [← r1]; exact w64 (by omega)
   refine swp_region ty_ok ?_
   refine runs_cut 4 fun R17 hR17 => ?_
   try simp (maxSteps := 1000000) [hk4, List.take_succ_cons, List.take_zero, List.drop_succ_cons, List.drop_zero]
   repeat' (first | apply And.intro | intro _)
   any_goals (first | (refine hR17 _ ?_; clear hR17) | (first | omega | (simp only [IntKind.wrap_i64] at *; omega) | (simp_all; done) | (simp_all; omega)))
   refine runs_cut 1 fun R18 hR18 => ?_
   try simp (maxSteps := 1000000) [hk4, List.take_succ_cons, List.take_zero, List.drop_succ_cons, List.drop_zero]
   refine .inl ⟨_, rget_ok b (getP b p 1) ((k : Int) + 4) hb hp (by have := getP_bd (b := b) (p := p) (size := 1) hb; omega), ?_⟩
   try simp (maxSteps := 1000000) [hk4]
   repeat' (first | apply And.intro | intro _)
   any_goals (first | (refine hR18 _ ?_; clear hR18) | (first | omega | (simp only [IntKind.wrap_i64] at *; omega) | (simp_all; done) | (simp_all; omega)))
   try simp (maxSteps := 1000000) [hk4, List.take_succ_cons, List.take_zero, List.drop_succ_cons, List.drop_zero]
   repeat' (first | apply And.intro | intro _)
   any_goals (first | (refine hK16 _ ?_; clear hK16) | (first | omega | (simp only [IntKind.wrap_i64] at *; omega) | (simp_all; done) | (simp_all; omega)))
   refine swp_seq fun K19 hK19 => ?_
   refine swp_region ty_ok ?_
   refine runs_cut 3 fun R20 hR20 => ?_
   try simp (maxSteps := 1000000) [hk4, hrw, List.take_succ_cons, List.take_zero, List.drop_succ_cons, List.drop_zero]
   repeat' (first | apply And.intro | intro _)
   any_goals (first | (refine hR20 _ ?_; clear hR20) | (first | omega | (simp only [IntKind.wrap_i64] at *; omega) | (simp_all; done) | (simp_all; omega)))
   refine runs_cut 1 fun R21 hR21 => ?_
   try simp (maxSteps := 1000000) [hk4, hrw, List.take_succ_cons, List.take_zero, List.drop_succ_cons, List.drop_zero]
   refine .inl ⟨_, two_ok (k + 4) (by omega), ?_⟩
   try simp (maxSteps := 1000000) [hk4, hrw]
   repeat' (first | apply And.intro | intro _)
   any_goals (first | (refine hR21 _ ?_; clear hR21) | (first | omega | (simp only [IntKind.wrap_i64] at *; omega) | (simp_all; done) | (simp_all; omega)))
   try simp (maxSteps := 1000000) [hk4, hrw, List.take_succ_cons, List.take_zero, List.drop_succ_cons, List.drop_zero]
   repeat' (first | apply And.intro | intro _)
   any_goals (first | (refine hK19 _ ?_; clear hK19) | (first | omega | (simp only [IntKind.wrap_i64] at *; omega) | (simp_all; done) | (simp_all; omega)))
   refine swp_ret ?_
   simp [fnPost, Try.results101, resP, tupOf]
   exact ⟨r2, r3⟩
  ·clear hC15
   try simp at hc15
   refine swp_skip ?_
   try simp only [thn, inBlk]
   refine hK13 _ ?_; clear hK13
   refine swp_seq fun K22 hK22 => ?_
   have hn1 : getN b p 1 = 1 := by rcases bit1 hp p with h | h; exact absurd h hc15; exact h
   obtain ⟨hq2, hc2⟩ := eQ_go hQ hC hE hn1
   refine swp_region ty_ok ?_
   try simp (maxSteps := 1000000)
   repeat' (first | apply And.intro | intro _)
   any_goals (first | (refine hK22 _ ?_; clear hK22) | (first | omega | (simp only [IntKind.wrap_i64] at *; omega) | (simp_all; done) | (simp_all; omega)))
   refine swp_seq fun K23 hK23 => ?_
   refine swp_region ty_ok ?_
   try simp (maxSteps := 1000000)
   repeat' (first | apply And.intro | intro _)
   any_goals (first | (refine hK23 _ ?_; clear hK23) | (first | omega | (simp only [IntKind.wrap_i64] at *; omega) | (simp_all; done) | (simp_all; omega)))
   refine swp_if fun C24 hC24 => ?_
   try simp (maxSteps := 1000000)
   refine hC24 _ (fun hc24 => ?_) (fun hc24 => ?_)
   ·clear hC24
    try simp at hc24
    refine swp_seq fun K25 hK25 => ?_
    refine swp_region ty_ok ?_
    try simp (maxSteps := 1000000)
    repeat' (first | apply And.intro | intro _)
    any_goals (first | (refine hK25 _ ?_; clear hK25) | (first | omega | (simp only [IntKind.wrap_i64] at *; omega) | (simp_all; done) | (simp_all; omega)))
    refine swp_ret ?_
    simp [fnPost, Try.results101, resP, tupOf]
    exact re_2 (by have h9 : k + 1 = 9 := (by omega); rw [← h9]; exact hc2)
   ·clear hC24
    try simp at hc24
    refine swp_skip ?_
    try simp only [thn, inBlk]
    refine hL4 _ ⟨[(0, .ro (.ints .u8 b)), (1, .int .i64 (getP b p 1)), (7, .int .i64 ((k + 1) : Nat))], [], 0⟩ _ ?_ ⟨(k + 1), (getP b p 1), by omega, by (have := getP_bd (b := b) (p := p) (size := 1) hb; omega), by exact hq2, by exact hc2, rfl, rfl⟩ ⟨by simp [getT, PV.lo, lo1, hkw], by simp [getH, Blk.lo, Cells.lo, lo1], rfl, by omega⟩
    omega

theorem rof_h (i : Nat) (h1 : 1 ≤ i) (h2 : i ≤ 12) (e : Nat) (he : e < bMany i) : HCall Try.prog 99 [.int .i64 (i : Nat), .int .i64 (e : Nat)] [] 1 (.sl 1 0 (bDim i) (bDim i)) [(1, some ⟨.ints .i64 (bVal i e), false, 3⟩)] := by
 have hB := bk_ok h1 h2
 have hdim := hB.dim
 have hlow := hB.low
 have hhigh := hB.high
 have hwide := hB.wide
 have hmany := hB.many
 have hplain := hB.plain
 have hs : IntKind.i64.wrap (bHigh i - bLow i) = bHigh i - bLow i := w64 (by omega)
 have hs2 : IntKind.i64.wrap (bHigh i - bLow i + 1) = (bWide i : Nat) := by rw [w64 (by omega)]; omega
 have hwn : ¬ (bWide i = 0) := (by omega)
 refine hcall_body ty_ok Try.func99 rfl (by rfl) (by simp) ?_
 rw [Try.ntmps99]
 refine swp_seq fun K1 hK1 => ?_
 refine swp_region ty_ok ?_
 try simp (maxSteps := 1000000)
 repeat' (first | apply And.intro | intro _)
 any_goals (first | (refine hK1 _ ?_; clear hK1) | (first | omega | (simp only [IntKind.wrap_i64] at *; omega) | (simp_all; done) | (simp_all; omega)))
 refine swp_seq fun K2 hK2 => ?_
 refine swp_region ty_ok ?_
 refine runs_cut 1 fun R3 hR3 => ?_
 try simp (maxSteps := 1000000) [hs, hs2, List.take_succ_cons, List.take_zero, List.drop_succ_cons, List.drop_zero]
 repeat' (first | apply And.intro | intro _)
 any_goals (first | (refine hR3 _ ?_; clear hR3) | (first | omega | (simp only [IntKind.wrap_i64] at *; omega) | (simp_all; done) | (simp_all; omega)))
 refine runs_cut 1 fun R4 hR4 => ?_
 try simp (maxSteps := 1000000) [hs, hs2, List.take_succ_cons, List.take_zero, List.drop_succ_cons, List.drop_zero]
 refine .inl ⟨_, high_ok i h1 h2, ?_⟩
 try simp (maxSteps := 1000000) [hs, hs2]
 repeat' (first | apply And.intro | intro _)
 any_goals (first | (refine hR4 _ ?_; clear hR4) | (first | omega | (simp only [IntKind.wrap_i64] at *; omega) | (simp_all; done) | (simp_all; omega)))
 refine runs_cut 1 fun R5 hR5 => ?_
 try simp (maxSteps := 1000000) [hs, hs2, List.take_succ_cons, List.take_zero, List.drop_succ_cons, List.drop_zero]
 repeat' (first | apply And.intro | intro _)
 any_goals (first | (refine hR5 _ ?_; clear hR5) | (first | omega | (simp only [IntKind.wrap_i64] at *; omega) | (simp_all; done) | (simp_all; omega)))
 refine runs_cut 1 fun R6 hR6 => ?_
 try simp (maxSteps := 1000000) [hs, hs2, List.take_succ_cons, List.take_zero, List.drop_succ_cons, List.drop_zero]
 refine .inl ⟨_, low_ok i h1 h2, ?_⟩
 try simp (maxSteps := 1000000) [hs, hs2]
 repeat' (first | apply And.intro | intro _)
 any_goals (first | (refine hR6 _ ?_; clear hR6) | (first | omega | (simp only [IntKind.wrap_i64] at *; omega) | (simp_all; done) | (simp_all; omega)))
 try simp (maxSteps := 1000000) [hs, hs2, List.take_succ_cons, List.take_zero, List.drop_succ_cons, List.drop_zero]
 repeat' (first | apply And.intro | intro _)
 any_goals (first | (refine hK2 _ ?_; clear hK2) | (first | omega | (simp only [IntKind.wrap_i64] at *; omega) | (simp_all; done) | (simp_all; omega)))
 refine swp_seq fun K7 hK7 => ?_
 refine swp_region ty_ok ?_
 try simp (maxSteps := 1000000)
 repeat' (first | apply And.intro | intro _)
 any_goals (first | (refine hK7 _ ?_; clear hK7) | (first | omega | (simp only [IntKind.wrap_i64] at *; omega) | (simp_all; done) | (simp_all; omega)))
 refine swp_seq fun K8 hK8 => ?_
 refine swp_seq fun K9 hK9 => ?_
 refine swp_region ty_ok ?_
 try simp (maxSteps := 1000000)
 repeat' (first | apply And.intro | intro _)
 any_goals (first | (refine hK9 _ ?_; clear hK9) | (first | omega | (simp only [IntKind.wrap_i64] at *; omega) | (simp_all; done) | (simp_all; omega)))
 refine swp_block ?_
 refine swp_own 6 3 (by simp [getT]; rfl) rfl ?_
 refine swp_loop 2 (fun m_ s_ => ∃ (j : Nat) (q : Nat) (tl : List Int), (j ≤ bDim i) ∧ (tl.length = j) ∧ (q < bMany i) ∧ (bDg i (bDim i - j) q ++ tl = bVal i e) ∧ s_ = ⟨[(0, .int .i64 (i : Nat)), (1, .int .i64 (q : Nat)), (5, .int .i64 (bWide i : Nat)), (6, .sl 1 0 j j), (7, .int .i64 (j : Nat))], [(1, some ⟨.ints .i64 tl, false, 3⟩)], 2⟩ ∧ m_ = bDim i - j) _ ⟨[(0, .int .i64 (i : Nat)), (1, .int .i64 (e : Nat)), (5, .int .i64 (bWide i : Nat)), (6, .sl 1 0 0 0), (7, .int .i64 (0 : Nat))], [(1, some ⟨.ints .i64 [], false, 3⟩)], 2⟩ ⟨by simp [getT, PV.lo, lo1], by simp [getH, Blk.lo, Cells.lo, lo1], rfl, by omega⟩ ⟨(0), (e), ([]), by omega, by rfl, by exact he, by (rw [List.append_nil]; rfl), rfl, rfl⟩ ?_
 rintro m_ s_ ⟨j, q, tl, hL10_0, hL10_1, hL10_2, hL10_3, rfl, rfl⟩ KL10 hL10
 have hjw := wnext (i := j) (by omega)
 have hv := (by assumption : bDg i (bDim i - j) q ++ tl = bVal i e)
 refine swp_seq fun K11 hK11 => ?_
 refine swp_seq fun K12 hK12 => ?_
 refine swp_region ty_ok ?_
 refine runs_cut 2 fun R13 hR13 => ?_
 try simp (maxSteps := 1000000) [List.take_succ_cons, List.take_zero, List.drop_succ_cons, List.drop_zero]
 repeat' (first | apply And.intro | intro _)
 any_goals (first | (refine hR13 _ ?_; clear hR13) | (first | omega | (simp only [IntKind.wrap_i64] at *; omega) | (simp_all; done) | (simp_all; omega)))
 refine runs_cut 1 fun R14 hR14 => ?_
 try simp (maxSteps := 1000000) [List.take_succ_cons, List.take_zero, List.drop_succ_cons, List.drop_zero]
 refine .inl ⟨_, dim_ok i h1 h2, ?_⟩
 try simp (maxSteps := 1000000)
 repeat' (first | apply And.intro | intro _)
 any_goals (first | (refine hR14 _ ?_; clear hR14) | (first | omega | (simp only [IntKind.wrap_i64] at *; omega) | (simp_all; done) | (simp_all; omega)))
 try simp (maxSteps := 1000000) [List.take_succ_cons, List.take_zero, List.drop_succ_cons, List.drop_zero]
 repeat' (first | apply And.intro | intro _)
 any_goals (first | (refine hK12 _ ?_; clear hK12) | (first | omega | (simp only [IntKind.wrap_i64] at *; omega) | (simp_all; done) | (simp_all; omega)))
 refine swp_if fun C15 hC15 => ?_
 try simp (maxSteps := 1000000)
 refine hC15 _ (fun hc15 => ?_) (fun hc15 => ?_)
 ·clear hC15
  try simp at hc15
  refine swp_skip ?_
  try simp only [thn, inBlk]
  refine hK11 _ ?_; clear hK11
  refine swp_seq fun K16 hK16 => ?_
  refine swp_block ?_
  refine swp_seq fun K17 hK17 => ?_
  have htlj := (by assumption : tl.length = j)
  refine swp_frz [6] (ps := [.ro (.ints .i64 tl)]) (is := [1]) (by simp [getT, getH, frzA, frz, frz1, Cells.len]; try omega) ?_
  simp only [onL, kills, List.map_cons, List.map_nil, List.zip_cons_cons, List.zip_nil_left, List.zip_nil_right, List.cons_append, List.nil_append]
  obtain ⟨r, hr⟩ : ∃ r, q % bWide i = r := ⟨_, rfl⟩
  have hrw : r < bWide i := by rw [← hr]; exact Nat.mod_lt _ (by omega)
  have hrm := tmod_nat hr
  have hrl : IntKind.i64.wrap (bLow i + (r : Int)) = bLow i + r := w64 (by omega)
  have htll : tl.length ≤ 4 := (by omega)
  refine swp_draw ty_ok mixed (ms := [0, 1, 0, 0, 12, 31, 63, 0, 255, 511]) (by kernel_rfl) ?_
  refine runD_cut 1 fun R18 hR18 => ?_
  try simp (maxSteps := 1000000) [hrm, hrl, hwn, List.take_succ_cons, List.take_zero, List.drop_succ_cons, List.drop_zero]
  repeat' (first | apply And.intro | intro _)
  any_goals (first | (refine hR18 _ _ _ _ ?_; clear hR18) | (first | omega | (simp only [IntKind.wrap_i64] at *; omega) | (simp_all; done) | (simp_all; omega)))
  refine runD_cut 1 fun R19 hR19 => ?_
  try simp (maxSteps := 1000000) [hrm, hrl, hwn, List.take_succ_cons, List.take_zero, List.drop_succ_cons, List.drop_zero]
  refine .inl ⟨_, low_ok i h1 h2, ?_⟩
  try simp (maxSteps := 1000000) [hrm, hrl, hwn]
  repeat' (first | apply And.intro | intro _)
  any_goals (first | (refine hR19 _ _ _ _ ?_; clear hR19) | (first | omega | (simp only [IntKind.wrap_i64] at *; omega) | (simp_all; done) | (simp_all; omega)))
  refine runD_cut 4 fun R20 hR20 => ?_
  try simp (maxSteps := 1000000) [hrm, hrl, hwn, List.take_succ_cons, List.take_zero, List.drop_succ_cons, List.drop_zero]
  repeat' (first | apply And.intro | intro _)
  any_goals (first | (refine hR20 _ _ _ _ ?_; clear hR20) | (first | omega | (simp only [IntKind.wrap_i64] at *; omega) | (simp_all; done) | (simp_all; omega)))
  refine runD_cut 1 fun R21 hR21 => ?_
  try simp (maxSteps := 1000000) [hrm, hrl, hwn, List.take_succ_cons, List.take_zero, List.drop_succ_cons, List.drop_zero]
  repeat' (first | apply And.intro | intro _)
  any_goals (first | (refine Or.inr (hR21 _ _ _ _ ?_); clear hR21) | (first | omega | (simp only [IntKind.wrap_i64] at *; omega) | (simp_all; done) | (simp_all; omega)))
  try simp (maxSteps := 1000000) [hrm, hrl, hwn, List.take_succ_cons, List.take_zero, List.drop_succ_cons, List.drop_zero]
  repeat' (first | apply And.intro | intro _)
  any_goals (first | kernel_rfl | (refine hK17 _ ?_; clear hK17) | (first | omega | (simp only [IntKind.wrap_i64] at *; omega) | (simp_all; done) | (simp_all; omega)))
  refine swp_ren 1 50 (by simp) (by simp) (by simp [purB, Cells.pur, pur1]) ?_
  simp [renW, okR, renP, ren2, ren1, leaf2, leafR, sw2, pur1]
  obtain ⟨p, hp⟩ : ∃ p, q / bWide i = p := ⟨_, rfl⟩
  have hpd := tdiv_nat hp
  have hpq : p ≤ q := by rw [← hp]; exact Nat.div_le_self _ _
  have hpw : IntKind.i64.wrap (p : Int) = p := w64 (by omega)
  refine swp_region ty_ok ?_
  try simp (maxSteps := 1000000) [hpd, hpw, hwn]
  repeat' (first | apply And.intro | intro _)
  any_goals (first | (refine hK16 _ ?_; clear hK16) | (first | omega | (simp only [IntKind.wrap_i64] at *; omega) | (simp_all; done) | (simp_all; omega)))
  refine swp_region ty_ok ?_
  try simp (maxSteps := 1000000)
  repeat' apply And.intro
  any_goals (try omega)
  refine hL10 _ ⟨[(0, .int .i64 (i : Nat)), (1, .int .i64 (p : Nat)), (5, .int .i64 (bWide i : Nat)), (6, .sl 1 0 (j + 1) (j + 1)), (7, .int .i64 ((j + 1) : Nat))], [(1, some ⟨.ints .i64 ((bLow i + (r : Int)) :: tl), false, 3⟩)], 2⟩ _ ?_ ⟨(j + 1), (p), (((bLow i + (r : Int)) :: tl)), by omega, by (simp; omega), by omega, by (rw [← hv, bDg_step (k := bDim i - j) (by omega), hr, hp, List.append_assoc]; rfl), rfl, rfl⟩ ⟨by (simp [getT, PV.lo, lo1, hjw, htlj]; try omega), by simp [getH, Blk.lo, Cells.lo, lo1], rfl, by omega⟩
  omega
 ·clear hC15
  try simp at hc15
  refine swp_exit ?_
  simp [thn, inBlk]
  refine hK8 _ ?_; clear hK8
  refine swp_seq fun K23 hK23 => ?_
  refine swp_region ty_ok ?_
  try simp (maxSteps := 1000000)
  repeat' (first | apply And.intro | intro _)
  any_goals (first | (refine hK23 _ ?_; clear hK23) | (first | omega | (simp only [IntKind.wrap_i64] at *; omega) | (simp_all; done) | (simp_all; omega)))
  refine swp_ret ?_
  simp [fnPostH, PV.inR, inR1, PV.inL, inL1, Blk.inL, Cells.inL, put_at, Try.results99, resP, tupOf]
  have hj : bDim i - j = 0 := (by omega)
  rw [hj] at hv
  exact ⟨by omega, hv⟩

theorem rsig_ok (i : Nat) (h1 : 1 ≤ i) (h2 : i ≤ 11)  : PCall Try.prog 93 [.int .i64 (i : Nat)] (.bool (hSig i)) := by
 have hrs := sig_low h1 h2
 refine pcall_body ty_ok Try.func93 rfl (by rfl) (by simp) ?_
 rw [Try.ntmps93]
 refine swp_seq fun K1 hK1 => ?_
 refine swp_region ty_ok ?_
 try simp (maxSteps := 1000000)
 repeat' (first | apply And.intro | intro _)
 any_goals (first | (refine hK1 _ ?_; clear hK1) | (first | omega | (simp only [IntKind.wrap_i64] at *; omega) | (simp_all; done) | (simp_all; omega)))
 refine swp_seq fun K2 hK2 => ?_
 refine swp_region ty_ok ?_
 refine runs_cut 1 fun R3 hR3 => ?_
 try simp (maxSteps := 1000000) [hrs, List.take_succ_cons, List.take_zero, List.drop_succ_cons, List.drop_zero]
 repeat' (first | apply And.intro | intro _)
 any_goals (first | (refine hR3 _ ?_; clear hR3) | (first | omega | (simp only [IntKind.wrap_i64] at *; omega) | (simp_all; done) | (simp_all; omega)))
 refine runs_cut 1 fun R4 hR4 => ?_
 try simp (maxSteps := 1000000) [hrs, List.take_succ_cons, List.take_zero, List.drop_succ_cons, List.drop_zero]
 refine .inl ⟨_, low_ok i h1 (by omega), ?_⟩
 try simp (maxSteps := 1000000) [hrs]
 repeat' (first | apply And.intro | intro _)
 any_goals (first | (refine hR4 _ ?_; clear hR4) | (first | omega | (simp only [IntKind.wrap_i64] at *; omega) | (simp_all; done) | (simp_all; omega)))
 try simp (maxSteps := 1000000) [hrs, List.take_succ_cons, List.take_zero, List.drop_succ_cons, List.drop_zero]
 repeat' (first | apply And.intro | intro _)
 any_goals (first | (refine hK2 _ ?_; clear hK2) | (first | omega | (simp only [IntKind.wrap_i64] at *; omega) | (simp_all; done) | (simp_all; omega)))
 refine swp_ret ?_
 simp [fnPost, Try.results93, resP, tupOf]

theorem rmost_ok (i : Nat) (h1 : 1 ≤ i) (h2 : i ≤ 11)  : PCall Try.prog 92 [.int .i64 (i : Nat)] (.int .i64 (hMost i)) := by
 have hmo := most_at h1 h2
 refine pcall_body ty_ok Try.func92 rfl (by rfl) (by simp) ?_
 rw [Try.ntmps92]
 refine swp_seq fun K1 hK1 => ?_
 refine swp_region ty_ok ?_
 try simp (maxSteps := 1000000)
 repeat' (first | apply And.intro | intro _)
 any_goals (first | (refine hK1 _ ?_; clear hK1) | (first | omega | (simp only [IntKind.wrap_i64] at *; omega) | (simp_all; done) | (simp_all; omega)))
 refine swp_seq fun K2 hK2 => ?_
 refine swp_region ty_ok ?_
 refine runs_cut 1 fun R3 hR3 => ?_
 try simp (maxSteps := 1000000) [hmo, List.take_succ_cons, List.take_zero, List.drop_succ_cons, List.drop_zero]
 repeat' (first | apply And.intro | intro _)
 any_goals (first | (refine Or.inl (hR3 _ ?_); clear hR3) | (first | omega | (simp only [IntKind.wrap_i64] at *; omega) | (simp_all; done) | (simp_all; omega)))
 try simp (maxSteps := 1000000) [hmo, List.take_succ_cons, List.take_zero, List.drop_succ_cons, List.drop_zero]
 repeat' (first | apply And.intro | intro _)
 any_goals (first | (refine hK2 _ ?_; clear hK2) | (first | omega | (simp only [IntKind.wrap_i64] at *; omega) | (simp_all; done) | (simp_all; omega)))
 refine swp_ret ?_
 simp [fnPost, Try.results92, resP, tupOf]

theorem rabs_ok (v : Int) (hv : -8191 ≤ v ∧ v ≤ 8191) : PCall Try.prog 94 [.int .i64 v] (.int .i64 (v.natAbs : Nat)) := by
 have hng : IntKind.i64.wrap (-v) = -v := w64 (by omega)
 refine pcall_body ty_ok Try.func94 rfl (by rfl) (by simp) ?_
 rw [Try.ntmps94]
 refine swp_seq fun K1 hK1 => ?_
 refine swp_region ty_ok ?_
 try simp (maxSteps := 1000000)
 repeat' (first | apply And.intro | intro _)
 any_goals (first | (refine hK1 _ ?_; clear hK1) | (first | omega | (simp only [IntKind.wrap_i64] at *; omega) | (simp_all; done) | (simp_all; omega)))
 refine swp_seq fun K2 hK2 => ?_
 refine swp_seq fun K3 hK3 => ?_
 refine swp_region ty_ok ?_
 try simp (maxSteps := 1000000)
 repeat' (first | apply And.intro | intro _)
 any_goals (first | (refine hK3 _ ?_; clear hK3) | (first | omega | (simp only [IntKind.wrap_i64] at *; omega) | (simp_all; done) | (simp_all; omega)))
 refine swp_if fun C4 hC4 => ?_
 try simp (maxSteps := 1000000)
 refine hC4 _ (fun hc4 => ?_) (fun hc4 => ?_)
 ·clear hC4
  try simp at hc4
  refine swp_seq fun K5 hK5 => ?_
  refine swp_region ty_ok ?_
  try simp (maxSteps := 1000000) [hng]
  repeat' (first | apply And.intro | intro _)
  any_goals (first | (refine hK5 _ ?_; clear hK5) | (first | omega | (simp only [IntKind.wrap_i64] at *; omega) | (simp_all; done) | (simp_all; omega)))
  refine swp_ret ?_
  simp [fnPost, Try.results94, resP, tupOf]
  omega
 ·clear hC4
  try simp at hc4
  refine swp_skip ?_
  try simp only [thn, inBlk]
  refine hK2 _ ?_; clear hK2
  refine swp_seq fun K6 hK6 => ?_
  refine swp_region ty_ok ?_
  try simp (maxSteps := 1000000)
  repeat' (first | apply And.intro | intro _)
  any_goals (first | (refine hK6 _ ?_; clear hK6) | (first | omega | (simp only [IntKind.wrap_i64] at *; omega) | (simp_all; done) | (simp_all; omega)))
  refine swp_ret ?_
  simp [fnPost, Try.results94, resP, tupOf]
  omega

set_option maxHeartbeats 8000000 in
theorem rread_ok (i : Nat) (h1 : 1 ≤ i) (h2 : i ≤ 11) (b : List Int) (at_ : Int) (hb : b.length ≤ 140737488355328) (hp : ∀ k : Nat, 0 ≤ b[k]?.getD 0 ∧ b[k]?.getD 0 ≤ 255) (hat : -9223372036854775808 ≤ at_ ∧ at_ ≤ 9223372036854775807) : PCall Try.prog 59 [.ro (.ints .u8 b), .int .i64 at_, bookV i] (.tup [.ro (.ints .i64 (hgV i b at_)), .int .i64 (hgP i b at_), .int .i64 (hgE i b at_)]) := by
 have hFd := (hkF h1 h2).d
 have hd4 : 2 ≤ bDim i ∧ bDim i ≤ 4 := by rw [hFd]; split <;> omega
 refine pcall_body ty_ok Try.func59 rfl (by rfl) (by simp) ?_
 rw [Try.ntmps59]
 refine swp_seq fun K1 hK1 => ?_
 refine swp_region ty_ok ?_
 try simp (maxSteps := 1000000) [bookV]
 repeat' (first | apply And.intro | intro _)
 any_goals (first | (refine hK1 _ ?_; clear hK1) | (first | omega | (simp only [IntKind.wrap_i64] at *; omega) | (simp_all; done) | (simp_all; omega)))
 refine swp_seq fun K2 hK2 => ?_
 refine swp_region ty_ok ?_
 refine runs_cut 3 fun R3 hR3 => ?_
 try simp (maxSteps := 1000000) [bookV, List.take_succ_cons, List.take_zero, List.drop_succ_cons, List.drop_zero]
 repeat' (first | apply And.intro | intro _)
 any_goals (first | (refine hR3 _ ?_; clear hR3) | (first | omega | (simp only [IntKind.wrap_i64] at *; omega) | (simp_all; done) | (simp_all; omega)))
 refine runs_cut 1 fun R4 hR4 => ?_
 try simp (maxSteps := 1000000) [bookV, List.take_succ_cons, List.take_zero, List.drop_succ_cons, List.drop_zero]
 refine .inl ⟨_, found_ok i h1 (by omega) b at_ hb hp hat, ?_⟩
 try simp (maxSteps := 1000000) [bookV]
 repeat' (first | apply And.intro | intro _)
 any_goals (first | (refine hR4 _ ?_; clear hR4) | (first | omega | (simp only [IntKind.wrap_i64] at *; omega) | (simp_all; done) | (simp_all; omega)))
 try simp (maxSteps := 1000000) [bookV, List.take_succ_cons, List.take_zero, List.drop_succ_cons, List.drop_zero]
 repeat' (first | apply And.intro | intro _)
 any_goals (first | (refine hK2 _ ?_; clear hK2) | (first | omega | (simp only [IntKind.wrap_i64] at *; omega) | (simp_all; done) | (simp_all; omega)))
 refine swp_seq fun K5 hK5 => ?_
 refine swp_seq fun K6 hK6 => ?_
 refine swp_region ty_ok ?_
 try simp (maxSteps := 1000000) [bookV]
 repeat' (first | apply And.intro | intro _)
 any_goals (first | (refine hK6 _ ?_; clear hK6) | (first | omega | (simp only [IntKind.wrap_i64] at *; omega) | (simp_all; done) | (simp_all; omega)))
 refine swp_if fun C7 hC7 => ?_
 try simp (maxSteps := 1000000) [bookV]
 refine hC7 _ (fun hc7 => ?_) (fun hc7 => ?_)
 ·clear hC7
  try simp at hc7
  refine swp_seq fun K8 hK8 => ?_
  refine swp_region ty_ok ?_
  try simp (maxSteps := 1000000) [bookV]
  repeat' (first | apply And.intro | intro _)
  any_goals (first | (refine hK8 _ ?_; clear hK8) | (first | omega | (simp only [IntKind.wrap_i64] at *; omega) | (simp_all; done) | (simp_all; omega)))
  refine swp_ret ?_
  simp [fnPost, Try.results59, resP, tupOf]
  exact hg_f (by assumption)
 ·clear hC7
  try simp at hc7
  refine swp_skip ?_
  try simp only [thn, inBlk]
  refine hK5 _ ?_; clear hK5
  refine swp_seq fun K9 hK9 => ?_
  have hf0 := hc7
  obtain ⟨e, he, hel, hpb⟩ := hg_ent h1 (by omega) hp hf0
  have hvl := bVal_len i e
  have hvs : hgL i b at_ = bVal i e := by unfold hgL; rw [he, Int.toNat_natCast]
  refine swp_region ty_ok ?_
  refine runs_cut 3 fun R10 hR10 => ?_
  try simp (maxSteps := 1000000) [bookV, he, List.take_succ_cons, List.take_zero, List.drop_succ_cons, List.drop_zero]
  repeat' (first | apply And.intro | intro _)
  any_goals (first | (refine hR10 _ ?_; clear hR10) | (first | omega | (simp only [IntKind.wrap_i64] at *; omega) | (simp_all; done) | (simp_all; omega)))
  refine runs_cut 1 fun R11 hR11 => ?_
  try simp (maxSteps := 1000000) [bookV, he, List.take_succ_cons, List.take_zero, List.drop_succ_cons, List.drop_zero]
  refine .inr (hcl_mk (rof_h i h1 (by omega) e hel) (by simp [PV.ids, id1, getH, Blk.inL, Cells.inL, inL1]) (by simp [PV.inL, inL1]) (by simp) ?_)
  try simp (maxSteps := 1000000) [bookV, he]
  repeat' (first | apply And.intro | intro _)
  any_goals (first | (refine hR11 _ ?_; clear hR11) | (first | omega | (simp only [IntKind.wrap_i64] at *; omega) | (simp_all; done) | (simp_all; omega)))
  try simp (maxSteps := 1000000) [bookV, he, List.take_succ_cons, List.take_zero, List.drop_succ_cons, List.drop_zero]
  repeat' (first | apply And.intro | intro _)
  any_goals (first | (refine hK9 _ ?_; clear hK9) | (first | omega | (simp only [IntKind.wrap_i64] at *; omega) | (simp_all; done) | (simp_all; omega)))
  refine swp_seq fun K12 hK12 => ?_
  refine swp_seq fun K13 hK13 => ?_
  refine swp_region ty_ok ?_
  refine runs_cut 2 fun R14 hR14 => ?_
  try simp (maxSteps := 1000000) [bookV, List.take_succ_cons, List.take_zero, List.drop_succ_cons, List.drop_zero]
  repeat' (first | apply And.intro | intro _)
  any_goals (first | (refine hR14 _ ?_; clear hR14) | (first | omega | (simp only [IntKind.wrap_i64] at *; omega) | (simp_all; done) | (simp_all; omega)))
  try simp (maxSteps := 1000000) [bookV, List.take_succ_cons, List.take_zero, List.drop_succ_cons, List.drop_zero]
  refine .inl ⟨_, rsig_ok i h1 h2, ?_⟩
  try simp (maxSteps := 1000000) [bookV]
  repeat' (first | apply And.intro | intro _)
  any_goals (first | (refine hK13 _ ?_; clear hK13) | (first | omega | (simp only [IntKind.wrap_i64] at *; omega) | (simp_all; done) | (simp_all; omega)))
  refine swp_if fun C15 hC15 => ?_
  try simp (maxSteps := 1000000) [bookV]
  refine hC15 _ (fun hc15 => ?_) (fun hc15 => ?_)
  ·clear hC15
   try simp at hc15
   refine swp_seq fun K16 hK16 => ?_
   refine swp_region ty_ok ?_
   try simp (maxSteps := 1000000) [bookV]
   repeat' (first | apply And.intro | intro _)
   any_goals (first | (refine hK16 _ ?_; clear hK16) | (first | omega | (simp only [IntKind.wrap_i64] at *; omega) | (simp_all; done) | (simp_all; omega)))
   refine swp_ret ?_
   simp [fnPost, Try.results59, resP, tupOf]
   obtain ⟨e1, e2, e3⟩ := hg_s hf0 (by assumption)
   rw [hvs] at e1
   exact ⟨hvl, e1, e2, e3⟩
  ·clear hC15
   try simp at hc15
   refine swp_skip ?_
   try simp only [thn, inBlk]
   refine hK12 _ ?_; clear hK12
   refine swp_seq fun K17 hK17 => ?_
   have hsg : hSig i = false := by simpa using hc15
   refine swp_region ty_ok ?_
   try simp (maxSteps := 1000000) [bookV]
   repeat' (first | apply And.intro | intro _)
   any_goals (first | (refine hK17 _ ?_; clear hK17) | (first | omega | (simp only [IntKind.wrap_i64] at *; omega) | (simp_all; done) | (simp_all; omega)))
   refine swp_seq fun K18 hK18 => ?_
   refine swp_seq fun K19 hK19 => ?_
   refine swp_region ty_ok ?_
   try simp (maxSteps := 1000000) [bookV]
   repeat' (first | apply And.intro | intro _)
   any_goals (first | (refine hK19 _ ?_; clear hK19) | (first | omega | (simp only [IntKind.wrap_i64] at *; omega) | (simp_all; done) | (simp_all; omega)))
   refine swp_block ?_
   refine swp_own 13 3 (by simp [getT]; rfl) rfl ?_
   refine swp_loop 3 (fun m_ s_ => ∃ (k : Nat) (p : Int), (k ≤ bDim i) ∧ (-9223372036854775808 ≤ p ∧ p ≤ 9223372036854775807) ∧ (sQ b (bVal i e) (fdP (bPlain i) (bE i) b at_, (0 : Int)) k = (p, 0)) ∧ s_ = ⟨[(0, .ro (.ints .u8 b)), (5, .ptr 0 0 0 1), (10, .int .i64 p), (12, .sl 1 0 (bDim i) (bDim i)), (13, .sl 2 0 k k), (14, .int .i64 (k : Nat))], [(0, some ⟨.rows 4 [[.int .i64 (i : Nat), .int .i64 (bPlain i : Nat), .ro (.ints .i64 (bE i)), .ro (.ints .i64 (bR i))]], true, 25⟩), (1, some ⟨.ints .i64 (bVal i e), false, 3⟩), (2, some ⟨.ints .i64 (sV b (bVal i e) (fdP (bPlain i) (bE i) b at_, (0 : Int)) k), false, 3⟩)], 3⟩ ∧ m_ = bDim i - k) _ ⟨[(0, .ro (.ints .u8 b)), (5, .ptr 0 0 0 1), (10, .int .i64 (fdP (bPlain i) (bE i) b at_)), (12, .sl 1 0 (bDim i) (bDim i)), (13, .sl 2 0 0 0), (14, .int .i64 (0 : Nat))], [(0, some ⟨.rows 4 [[.int .i64 (i : Nat), .int .i64 (bPlain i : Nat), .ro (.ints .i64 (bE i)), .ro (.ints .i64 (bR i))]], true, 25⟩), (1, some ⟨.ints .i64 (bVal i e), false, 3⟩), (2, some ⟨.ints .i64 (sV b (bVal i e) (fdP (bPlain i) (bE i) b at_, (0 : Int)) 0), false, 3⟩)], 3⟩ ⟨by simp [getT, PV.lo, lo1], by simp [getH, Blk.lo, Cells.lo, lo1, sV], rfl, by omega⟩ ⟨(0), ((fdP (bPlain i) (bE i) b at_)), by omega, by omega, by rfl, rfl, rfl⟩ ?_
   rintro m_ s_ ⟨k, p, hL20_0, hL20_1, hL20_2, rfl, rfl⟩ KL20 hL20
   have hkw := wnext (i := k) (by omega)
   have hpp := (by assumption : -9223372036854775808 ≤ p ∧ p ≤ 9223372036854775807)
   have hQ := (by assumption : sQ b (bVal i e) (fdP (bPlain i) (bE i) b at_, (0 : Int)) k = (p, 0))
   refine swp_seq fun K21 hK21 => ?_
   refine swp_seq fun K22 hK22 => ?_
   refine swp_region ty_ok ?_
   try simp (maxSteps := 1000000) [bookV]
   repeat' (first | apply And.intro | intro _)
   any_goals (first | (refine hK22 _ ?_; clear hK22) | (first | omega | (simp only [IntKind.wrap_i64] at *; omega) | (simp_all; done) | (simp_all; omega)))
   refine swp_if fun C23 hC23 => ?_
   try simp (maxSteps := 1000000) [bookV]
   refine hC23 _ (fun hc23 => ?_) (fun hc23 => ?_)
   ·clear hC23
    try simp at hc23
    refine swp_skip ?_
    try simp only [thn, inBlk]
    refine hK21 _ ?_; clear hK21
    refine swp_seq fun K24 hK24 => ?_
    refine swp_block ?_
    refine swp_seq fun K25 hK25 => ?_
    refine swp_region ty_ok ?_
    try simp (maxSteps := 1000000) [bookV]
    repeat' (first | apply And.intro | intro _)
    any_goals (first | (refine hK25 _ ?_; clear hK25) | (first | omega | (simp only [IntKind.wrap_i64] at *; omega) | (simp_all; done) | (simp_all; omega)))
    refine swp_seq fun K26 hK26 => ?_
    refine swp_seq fun K27 hK27 => ?_
    have hkl : k < bDim i := (by have h := hc23; omega)
    have hbu := bVal_u (e := e) h1 h2 hsg hkl
    have hsl := sV_len b (bVal i e) (fdP (bPlain i) (bE i) b at_, (0 : Int)) k
    refine swp_region ty_ok ?_
    try simp (maxSteps := 1000000) [bookV]
    repeat' (first | apply And.intro | intro _)
    any_goals (first | (refine hK27 _ ?_; clear hK27) | (first | omega | (simp only [IntKind.wrap_i64] at *; omega) | (simp_all; done) | (simp_all; omega)))
    refine swp_if fun C28 hC28 => ?_
    try simp (maxSteps := 1000000) [bookV]
    refine hC28 _ (fun hc28 => ?_) (fun hc28 => ?_)
    ·clear hC28
     try simp at hc28
     refine swp_seq fun K29 hK29 => ?_
     have hnz : ¬ (bVal i e)[k]?.getD 0 = 0 := (by have h := hc28; omega)
     refine swp_region ty_ok ?_
     refine runs_cut 2 fun R30 hR30 => ?_
     try simp (maxSteps := 1000000) [bookV, List.take_succ_cons, List.take_zero, List.drop_succ_cons, List.drop_zero]
     repeat' (first | apply And.intro | intro _)
     any_goals (first | (refine hR30 _ ?_; clear hR30) | (first | omega | (simp only [IntKind.wrap_i64] at *; omega) | (simp_all; done) | (simp_all; omega)))
     refine runs_cut 1 fun R31 hR31 => ?_
     try simp (maxSteps := 1000000) [bookV, List.take_succ_cons, List.take_zero, List.drop_succ_cons, List.drop_zero]
     refine .inl ⟨_, rget_ok b p 1 hb hp hpp, ?_⟩
     try simp (maxSteps := 1000000) [bookV]
     repeat' (first | apply And.intro | intro _)
     any_goals (first | (refine hR31 _ ?_; clear hR31) | (first | omega | (simp only [IntKind.wrap_i64] at *; omega) | (simp_all; done) | (simp_all; omega)))
     try simp (maxSteps := 1000000) [bookV, List.take_succ_cons, List.take_zero, List.drop_succ_cons, List.drop_zero]
     repeat' (first | apply And.intro | intro _)
     any_goals (first | (refine hK29 _ ?_; clear hK29) | (first | omega | (simp only [IntKind.wrap_i64] at *; omega) | (simp_all; done) | (simp_all; omega)))
     refine swp_seq fun K32 hK32 => ?_
     refine swp_region ty_ok ?_
     try simp (maxSteps := 1000000) [bookV]
     repeat' (first | apply And.intro | intro _)
     any_goals (first | (refine hK32 _ ?_; clear hK32) | (first | omega | (simp only [IntKind.wrap_i64] at *; omega) | (simp_all; done) | (simp_all; omega)))
     refine swp_if fun C33 hC33 => ?_
     try simp (maxSteps := 1000000) [bookV]
     refine hC33 _ (fun hc33 => ?_) (fun hc33 => ?_)
     ·clear hC33
      try simp at hc33
      refine swp_seq fun K34 hK34 => ?_
      refine swp_region ty_ok ?_
      try simp (maxSteps := 1000000) [bookV]
      repeat' (first | apply And.intro | intro _)
      any_goals (first | (refine hK34 _ ?_; clear hK34) | (first | omega | (simp only [IntKind.wrap_i64] at *; omega) | (simp_all; done) | (simp_all; omega)))
      refine swp_ret ?_
      simp [fnPost, Try.results59, resP, tupOf]
      exact hg_e2 hvs hvl hf0 hsg (by omega) (sq_no hQ hnz hc33) hc33
     ·clear hC33
      try simp at hc33
      refine swp_skip ?_
      try simp only [thn, inBlk]
      refine hK26 _ ?_; clear hK26
      first | (have hq2 := sq_go hQ hnz hc33) | (have hq2 := sq_z (b := b) hQ (by have h := hc33; omega))
      refine swp_region ty_ok ?_
      refine runs_cut 2 fun R35 hR35 => ?_
      try simp (maxSteps := 1000000) [bookV, List.take_succ_cons, List.take_zero, List.drop_succ_cons, List.drop_zero]
      repeat' (first | apply And.intro | intro _)
      any_goals (first | (refine hR35 _ ?_; clear hR35) | (first | omega | (simp only [IntKind.wrap_i64] at *; omega) | (simp_all; done) | (simp_all; omega)))
      refine runs_cut 1 fun R36 hR36 => ?_
      try simp (maxSteps := 1000000) [bookV, List.take_succ_cons, List.take_zero, List.drop_succ_cons, List.drop_zero]
      repeat' (first | apply And.intro | intro _)
      any_goals (first | (refine Or.inl (hR36 _ ?_); clear hR36) | (first | omega | (simp only [IntKind.wrap_i64] at *; omega) | (simp_all; done) | (simp_all; omega)))
      try simp (maxSteps := 1000000) [bookV, List.take_succ_cons, List.take_zero, List.drop_succ_cons, List.drop_zero]
      repeat' (first | apply And.intro | intro _)
      any_goals (first | (refine hK24 _ ?_; clear hK24) | (first | omega | (simp only [IntKind.wrap_i64] at *; omega) | (simp_all; done) | (simp_all; omega)))
      refine swp_region ty_ok ?_
      try simp (maxSteps := 1000000) [bookV]
      repeat' apply And.intro
      any_goals (try omega)
      first | refine hL20 _ ⟨[(0, .ro (.ints .u8 b)), (5, .ptr 0 0 0 1), (10, .int .i64 (getP b p 1)), (12, .sl 1 0 (bDim i) (bDim i)), (13, .sl 2 0 (k + 1) (k + 1)), (14, .int .i64 ((k + 1) : Nat))], [(0, some ⟨.rows 4 [[.int .i64 (i : Nat), .int .i64 (bPlain i : Nat), .ro (.ints .i64 (bE i)), .ro (.ints .i64 (bR i))]], true, 25⟩), (1, some ⟨.ints .i64 (bVal i e), false, 3⟩), (2, some ⟨.ints .i64 (sV b (bVal i e) (fdP (bPlain i) (bE i) b at_, (0 : Int)) (k + 1)), false, 3⟩)], 3⟩ _ ?_ ⟨(k + 1), (getP b p 1), by omega, by (first | omega | (have := getP_bd (b := b) (p := p) (size := 1) hb; omega)), by exact hq2.1, rfl, rfl⟩ ⟨by simp [getT, PV.lo, lo1, hkw], by simp [getH, Blk.lo, Cells.lo, lo1, hq2.2], rfl, by omega⟩ | refine hL20 _ ⟨[(0, .ro (.ints .u8 b)), (5, .ptr 0 0 0 1), (10, .int .i64 p), (12, .sl 1 0 (bDim i) (bDim i)), (13, .sl 2 0 (k + 1) (k + 1)), (14, .int .i64 ((k + 1) : Nat))], [(0, some ⟨.rows 4 [[.int .i64 (i : Nat), .int .i64 (bPlain i : Nat), .ro (.ints .i64 (bE i)), .ro (.ints .i64 (bR i))]], true, 25⟩), (1, some ⟨.ints .i64 (bVal i e), false, 3⟩), (2, some ⟨.ints .i64 (sV b (bVal i e) (fdP (bPlain i) (bE i) b at_, (0 : Int)) (k + 1)), false, 3⟩)], 3⟩ _ ?_ ⟨(k + 1), (p), by omega, by (first | omega | (have := getP_bd (b := b) (p := p) (size := 1) hb; omega)), by exact hq2.1, rfl, rfl⟩ ⟨by simp [getT, PV.lo, lo1, hkw], by simp [getH, Blk.lo, Cells.lo, lo1, hq2.2], rfl, by omega⟩
      omega
    ·clear hC28
     try simp at hc28
     refine swp_skip ?_
     try simp only [thn, inBlk]
     refine hK26 _ ?_; clear hK26
     first | (have hq2 := sq_go hQ hnz hc28) | (have hq2 := sq_z (b := b) hQ (by have h := hc28; omega))
     refine swp_region ty_ok ?_
     refine runs_cut 2 fun R37 hR37 => ?_
     try simp (maxSteps := 1000000) [bookV, List.take_succ_cons, List.take_zero, List.drop_succ_cons, List.drop_zero]
     repeat' (first | apply And.intro | intro _)
     any_goals (first | (refine hR37 _ ?_; clear hR37) | (first | omega | (simp only [IntKind.wrap_i64] at *; omega) | (simp_all; done) | (simp_all; omega)))
     refine runs_cut 1 fun R38 hR38 => ?_
     try simp (maxSteps := 1000000) [bookV, List.take_succ_cons, List.take_zero, List.drop_succ_cons, List.drop_zero]
     repeat' (first | apply And.intro | intro _)
     any_goals (first | (refine Or.inl (hR38 _ ?_); clear hR38) | (first | omega | (simp only [IntKind.wrap_i64] at *; omega) | (simp_all; done) | (simp_all; omega)))
     try simp (maxSteps := 1000000) [bookV, List.take_succ_cons, List.take_zero, List.drop_succ_cons, List.drop_zero]
     repeat' (first | apply And.intro | intro _)
     any_goals (first | (refine hK24 _ ?_; clear hK24) | (first | omega | (simp only [IntKind.wrap_i64] at *; omega) | (simp_all; done) | (simp_all; omega)))
     refine swp_region ty_ok ?_
     try simp (maxSteps := 1000000) [bookV]
     repeat' apply And.intro
     any_goals (try omega)
     first | refine hL20 _ ⟨[(0, .ro (.ints .u8 b)), (5, .ptr 0 0 0 1), (10, .int .i64 (getP b p 1)), (12, .sl 1 0 (bDim i) (bDim i)), (13, .sl 2 0 (k + 1) (k + 1)), (14, .int .i64 ((k + 1) : Nat))], [(0, some ⟨.rows 4 [[.int .i64 (i : Nat), .int .i64 (bPlain i : Nat), .ro (.ints .i64 (bE i)), .ro (.ints .i64 (bR i))]], true, 25⟩), (1, some ⟨.ints .i64 (bVal i e), false, 3⟩), (2, some ⟨.ints .i64 (sV b (bVal i e) (fdP (bPlain i) (bE i) b at_, (0 : Int)) (k + 1)), false, 3⟩)], 3⟩ _ ?_ ⟨(k + 1), (getP b p 1), by omega, by (first | omega | (have := getP_bd (b := b) (p := p) (size := 1) hb; omega)), by exact hq2.1, rfl, rfl⟩ ⟨by simp [getT, PV.lo, lo1, hkw], by simp [getH, Blk.lo, Cells.lo, lo1, hq2.2], rfl, by omega⟩ | refine hL20 _ ⟨[(0, .ro (.ints .u8 b)), (5, .ptr 0 0 0 1), (10, .int .i64 p), (12, .sl 1 0 (bDim i) (bDim i)), (13, .sl 2 0 (k + 1) (k + 1)), (14, .int .i64 ((k + 1) : Nat))], [(0, some ⟨.rows 4 [[.int .i64 (i : Nat), .int .i64 (bPlain i : Nat), .ro (.ints .i64 (bE i)), .ro (.ints .i64 (bR i))]], true, 25⟩), (1, some ⟨.ints .i64 (bVal i e), false, 3⟩), (2, some ⟨.ints .i64 (sV b (bVal i e) (fdP (bPlain i) (bE i) b at_, (0 : Int)) (k + 1)), false, 3⟩)], 3⟩ _ ?_ ⟨(k + 1), (p), by omega, by (first | omega | (have := getP_bd (b := b) (p := p) (size := 1) hb; omega)), by exact hq2.1, rfl, rfl⟩ ⟨by simp [getT, PV.lo, lo1, hkw], by simp [getH, Blk.lo, Cells.lo, lo1, hq2.2], rfl, by omega⟩
     omega
   ·clear hC23
    try simp at hc23
    refine swp_exit ?_
    simp [thn, inBlk]
    refine hK18 _ ?_; clear hK18
    refine swp_seq fun K39 hK39 => ?_
    refine swp_seq fun K40 hK40 => ?_
    refine swp_region ty_ok ?_
    try simp (maxSteps := 1000000) [bookV]
    repeat' (first | apply And.intro | intro _)
    any_goals (first | (refine hK40 _ ?_; clear hK40) | (first | omega | (simp only [IntKind.wrap_i64] at *; omega) | (simp_all; done) | (simp_all; omega)))
    refine swp_block ?_
    have hke : k = bDim i := (by omega)
    subst hke
    refine swp_loop 3 (fun m_ s_ => ∃ (k : Nat) (p : Int), (k ≤ bDim i) ∧ (-9223372036854775808 ≤ p ∧ p ≤ 9223372036854775807) ∧ (vQ b i (bVal i e) (sQ b (bVal i e) (fdP (bPlain i) (bE i) b at_, (0 : Int)) (bDim i)) k = (p, 0)) ∧ s_ = ⟨[(0, .ro (.ints .u8 b)), (5, .ptr 0 0 0 1), (10, .int .i64 p), (12, .sl 1 0 (bDim i) (bDim i)), (13, .sl 2 0 (bDim i) (bDim i)), (16, .int .i64 (k : Nat))], [(0, some ⟨.rows 4 [[.int .i64 (i : Nat), .int .i64 (bPlain i : Nat), .ro (.ints .i64 (bE i)), .ro (.ints .i64 (bR i))]], true, 25⟩), (1, some ⟨.ints .i64 (vV b i (bVal i e) (sV b (bVal i e) (fdP (bPlain i) (bE i) b at_, (0 : Int)) (bDim i)) (sQ b (bVal i e) (fdP (bPlain i) (bE i) b at_, (0 : Int)) (bDim i)) k ++ List.drop k (bVal i e)), false, 3⟩), (2, some ⟨.ints .i64 (sV b (bVal i e) (fdP (bPlain i) (bE i) b at_, (0 : Int)) (bDim i)), false, 3⟩)], 3⟩ ∧ m_ = bDim i - k) _ ⟨[(0, .ro (.ints .u8 b)), (5, .ptr 0 0 0 1), (10, .int .i64 p), (12, .sl 1 0 (bDim i) (bDim i)), (13, .sl 2 0 (bDim i) (bDim i)), (16, .int .i64 (0 : Nat))], [(0, some ⟨.rows 4 [[.int .i64 (i : Nat), .int .i64 (bPlain i : Nat), .ro (.ints .i64 (bE i)), .ro (.ints .i64 (bR i))]], true, 25⟩), (1, some ⟨.ints .i64 (vV b i (bVal i e) (sV b (bVal i e) (fdP (bPlain i) (bE i) b at_, (0 : Int)) (bDim i)) (sQ b (bVal i e) (fdP (bPlain i) (bE i) b at_, (0 : Int)) (bDim i)) 0 ++ List.drop 0 (bVal i e)), false, 3⟩), (2, some ⟨.ints .i64 (sV b (bVal i e) (fdP (bPlain i) (bE i) b at_, (0 : Int)) (bDim i)), false, 3⟩)], 3⟩ ⟨by simp [getT, PV.lo, lo1], by simp [getH, Blk.lo, Cells.lo, lo1, vV], rfl, by omega⟩ ⟨(0), (p), by omega, by exact hpp, by exact hQ, rfl, rfl⟩ ?_
    rintro m_ s_ ⟨k, p, hL41_0, hL41_1, hL41_2, rfl, rfl⟩ KL41 hL41
    have hkw := wnext (i := k) (by omega)
    have hpp := (by assumption : -9223372036854775808 ≤ p ∧ p ≤ 9223372036854775807)
    have hQ := (by assumption : vQ b i (bVal i e) (sQ b (bVal i e) (fdP (bPlain i) (bE i) b at_, (0 : Int)) (bDim i)) k = (p, 0))
    refine swp_seq fun K42 hK42 => ?_
    refine swp_seq fun K43 hK43 => ?_
    refine swp_region ty_ok ?_
    try simp (maxSteps := 1000000) [bookV]
    repeat' (first | apply And.intro | intro _)
    any_goals (first | (refine hK43 _ ?_; clear hK43) | (first | omega | (simp only [IntKind.wrap_i64] at *; omega) | (simp_all; done) | (simp_all; omega)))
    refine swp_if fun C44 hC44 => ?_
    try simp (maxSteps := 1000000) [bookV]
    refine hC44 _ (fun hc44 => ?_) (fun hc44 => ?_)
    ·clear hC44
     try simp at hc44
     refine swp_skip ?_
     try simp only [thn, inBlk]
     refine hK42 _ ?_; clear hK42
     refine swp_seq fun K45 hK45 => ?_
     refine swp_block ?_
     refine swp_seq fun K46 hK46 => ?_
     refine swp_seq fun K47 hK47 => ?_
     have hkl : k < bDim i := (by have h := hc44; omega)
     have hbu := bVal_u (e := e) h1 h2 hsg hkl
     have hvvl := vV_len b i (bVal i e) (sV b (bVal i e) (fdP (bPlain i) (bE i) b at_, (0 : Int)) (bDim i)) (sQ b (bVal i e) (fdP (bPlain i) (bE i) b at_, (0 : Int)) (bDim i)) k
     have hgd := get_drop (vs := (bVal i e)) hvvl (by omega)
     have hsgl := sV_len b (bVal i e) (fdP (bPlain i) (bE i) b at_, (0 : Int)) (bDim i)
     have hev := reV_bd (nn hp) p
     have hng1 : IntKind.i64.wrap (-(reV b p)) = -(reV b p) := w64 (by omega)
     have hng2 : IntKind.i64.wrap (-((bVal i e)[k]?.getD 0)) = -((bVal i e)[k]?.getD 0) := w64 (by omega)
     have hst1 := set_drop' (vs := (bVal i e)) hvvl (by omega) (reV b p)
     have hst2 := set_drop' (vs := (bVal i e)) hvvl (by omega) (-((bVal i e)[k]?.getD 0))
     have hst3 := set_mid (B := List.drop (k + 1) (bVal i e)) hvvl (reV b p) (-(reV b p))
     have hgm := get_mid (B := List.drop (k + 1) (bVal i e)) hvvl (reV b p)
     have hlm : ((vV b i (bVal i e) (sV b (bVal i e) (fdP (bPlain i) (bE i) b at_, (0 : Int)) (bDim i)) (sQ b (bVal i e) (fdP (bPlain i) (bE i) b at_, (0 : Int)) (bDim i)) k) ++ (reV b p) :: List.drop (k + 1) (bVal i e)).length = bDim i := by rw [List.length_append, hvvl, List.length_cons, List.length_drop]; omega
     have hlm2 : ((vV b i (bVal i e) (sV b (bVal i e) (fdP (bPlain i) (bE i) b at_, (0 : Int)) (bDim i)) (sQ b (bVal i e) (fdP (bPlain i) (bE i) b at_, (0 : Int)) (bDim i)) k) ++ List.drop k (bVal i e)).length = bDim i := by rw [List.length_append, hvvl, List.length_drop]; omega
     have hdk := drop_at (vs := (bVal i e)) (k := k) (by omega)
     refine swp_region ty_ok ?_
     try simp (maxSteps := 1000000) [bookV, hgd, hlm2]
     repeat' (first | apply And.intro | intro _)
     any_goals (first | (refine hK47 _ ?_; clear hK47) | (first | omega | (simp only [IntKind.wrap_i64] at *; omega) | (simp_all; done) | (simp_all; omega)))
     refine swp_if fun C48 hC48 => ?_
     try simp (maxSteps := 1000000) [bookV, hgd, hlm2]
     refine hC48 _ (fun hc48 => ?_) (fun hc48 => ?_)
     ·clear hC48
      try simp at hc48
      refine swp_seq fun K49 hK49 => ?_
      have hvc : vC i (bVal i e) k := ⟨by have h := hc48; omega, (hc48).2⟩
      have hq1 := vq_c hQ hvc
      refine swp_region ty_ok ?_
      refine runs_cut 4 fun R50 hR50 => ?_
      try simp (maxSteps := 1000000) [bookV, hst1, hlm2, List.take_succ_cons, List.take_zero, List.drop_succ_cons, List.drop_zero]
      repeat' (first | apply And.intro | intro _)
      any_goals (first | (refine hR50 _ ?_; clear hR50) | (first | omega | (simp only [IntKind.wrap_i64] at *; omega) | (simp_all; done) | (simp_all; omega)))
      refine runs_cut 1 fun R51 hR51 => ?_
      try simp (maxSteps := 1000000) [bookV, hst1, hlm2, List.take_succ_cons, List.take_zero, List.drop_succ_cons, List.drop_zero]
      refine .inl ⟨_, resc_ok b p hb hp hpp, ?_⟩
      try simp (maxSteps := 1000000) [bookV, hst1, hlm2]
      repeat' (first | apply And.intro | intro _)
      any_goals (first | (refine hR51 _ ?_; clear hR51) | (first | omega | (simp only [IntKind.wrap_i64] at *; omega) | (simp_all; done) | (simp_all; omega)))
      try simp (maxSteps := 1000000) [bookV, hst1, hlm2, List.take_succ_cons, List.take_zero, List.drop_succ_cons, List.drop_zero]
      repeat' (first | apply And.intro | intro _)
      any_goals (first | (refine hK49 _ ?_; clear hK49) | (first | omega | (simp only [IntKind.wrap_i64] at *; omega) | (simp_all; done) | (simp_all; omega)))
      refine swp_seq fun K52 hK52 => ?_
      refine swp_region ty_ok ?_
      try simp (maxSteps := 1000000) [bookV]
      repeat' (first | apply And.intro | intro _)
      any_goals (first | (refine hK52 _ ?_; clear hK52) | (first | omega | (simp only [IntKind.wrap_i64] at *; omega) | (simp_all; done) | (simp_all; omega)))
      refine swp_if fun C53 hC53 => ?_
      try simp (maxSteps := 1000000) [bookV]
      refine hC53 _ (fun hc53 => ?_) (fun hc53 => ?_)
      ·clear hC53
       try simp at hc53
       refine swp_seq fun K54 hK54 => ?_
       refine swp_region ty_ok ?_
       try simp (maxSteps := 1000000) [bookV]
       repeat' (first | apply And.intro | intro _)
       any_goals (first | (refine hK54 _ ?_; clear hK54) | (first | omega | (simp only [IntKind.wrap_i64] at *; omega) | (simp_all; done) | (simp_all; omega)))
       refine swp_ret ?_
       simp [fnPost, Try.results59, resP, tupOf]
       exact hg_e3 hvs hvl hf0 hsg (by omega) (congrArg Prod.snd hq1) hc53
      ·clear hC53
       try simp at hc53
       refine swp_skip ?_
       try simp only [thn, inBlk]
       refine hK46 _ ?_; clear hK46
       refine swp_seq fun K55 hK55 => ?_
       first | (obtain ⟨hr1, hr2⟩ := re_ok (b := b) (p := p) hc53; have hq2 := hq1.trans hr2) | (have hvn : ¬ vC i (bVal i e) k := fun h => (hc53 : (i : Int) = 11 → ¬ (bVal i e)[k]?.getD 0 = 16) (by rw [h.1]; rfl) h.2; have hq2 := vq_n hQ hvn) | (have hvn : ¬ vC i (bVal i e) k := fun h => (hc53 : i = 11 → ¬ (bVal i e)[k]?.getD 0 = 16) h.1 h.2; have hq2 := vq_n hQ hvn)
       refine swp_region ty_ok ?_
       try simp (maxSteps := 1000000) [bookV, hsgl]
       repeat' (first | apply And.intro | intro _)
       any_goals (first | (refine hK55 _ ?_; clear hK55) | (first | omega | (simp only [IntKind.wrap_i64] at *; omega) | (simp_all; done) | (simp_all; omega)))
       refine swp_if fun C56 hC56 => ?_
       try simp (maxSteps := 1000000) [bookV, hsgl]
       refine hC56 _ (fun hc56 => ?_) (fun hc56 => ?_)
       ·clear hC56
        try simp at hc56
        refine swp_region ty_ok ?_
        try simp (maxSteps := 1000000) [bookV, hgd, hgm, hst2, hst3, hng1, hng2, hlm, hlm2]
        repeat' (first | apply And.intro | intro _)
        any_goals (first | (refine hK45 _ ?_; clear hK45) | (first | omega | (simp only [IntKind.wrap_i64] at *; omega) | (simp_all; done) | (simp_all; omega)))
        refine swp_region ty_ok ?_
        try simp (maxSteps := 1000000) [bookV]
        repeat' apply And.intro
        any_goals (try omega)
        first | refine hL41 _ ⟨[(0, .ro (.ints .u8 b)), (5, .ptr 0 0 0 1), (10, .int .i64 (reP b p)), (12, .sl 1 0 (bDim i) (bDim i)), (13, .sl 2 0 (bDim i) (bDim i)), (16, .int .i64 ((k + 1) : Nat))], [(0, some ⟨.rows 4 [[.int .i64 (i : Nat), .int .i64 (bPlain i : Nat), .ro (.ints .i64 (bE i)), .ro (.ints .i64 (bR i))]], true, 25⟩), (1, some ⟨.ints .i64 (vV b i (bVal i e) (sV b (bVal i e) (fdP (bPlain i) (bE i) b at_, (0 : Int)) (bDim i)) (sQ b (bVal i e) (fdP (bPlain i) (bE i) b at_, (0 : Int)) (bDim i)) (k + 1) ++ List.drop (k + 1) (bVal i e)), false, 3⟩), (2, some ⟨.ints .i64 (sV b (bVal i e) (fdP (bPlain i) (bE i) b at_, (0 : Int)) (bDim i)), false, 3⟩)], 3⟩ _ ?_ ⟨(k + 1), (reP b p), by omega, by (first | omega | (have h9 := eF_bd (q := (p, 0)) hb hpp; rw [hr2] at h9; exact h9)), by exact hq2, rfl, rfl⟩ ⟨by simp [getT, PV.lo, lo1, hkw], by (first | ((first | (have hb1 := (vB_c1 (b := b) (q := (sQ b (bVal i e) (fdP (bPlain i) (bE i) b at_, (0 : Int)) (bDim i))) hvc (by assumption : (sV b (bVal i e) (fdP (bPlain i) (bE i) b at_, (0 : Int)) (bDim i))[k]?.getD 0 = 1)).trans (by rw [hQ, ← hr1]); simp [getH, Blk.lo, Cells.lo, lo1, vV_nx, hb1]; done) | (have hb1 := (vB_c0 (b := b) (q := (sQ b (bVal i e) (fdP (bPlain i) (bE i) b at_, (0 : Int)) (bDim i))) hvc (by assumption : ¬ (sV b (bVal i e) (fdP (bPlain i) (bE i) b at_, (0 : Int)) (bDim i))[k]?.getD 0 = 1)).trans (by rw [hQ, ← hr1]); simp [getH, Blk.lo, Cells.lo, lo1, vV_nx, hb1]; done))) | ((first | (have hb1 := vB_n1 (b := b) (q := (sQ b (bVal i e) (fdP (bPlain i) (bE i) b at_, (0 : Int)) (bDim i))) hvn (by assumption : (sV b (bVal i e) (fdP (bPlain i) (bE i) b at_, (0 : Int)) (bDim i))[k]?.getD 0 = 1); simp [getH, Blk.lo, Cells.lo, lo1, vV_nx, hb1]; done) | (have hb1 := vB_n0 (b := b) (q := (sQ b (bVal i e) (fdP (bPlain i) (bE i) b at_, (0 : Int)) (bDim i))) hvn (by assumption : ¬ (sV b (bVal i e) (fdP (bPlain i) (bE i) b at_, (0 : Int)) (bDim i))[k]?.getD 0 = 1); simp [getH, Blk.lo, Cells.lo, lo1, vV_nx, hb1, hdk]; done)))), rfl, by omega⟩ | refine hL41 _ ⟨[(0, .ro (.ints .u8 b)), (5, .ptr 0 0 0 1), (10, .int .i64 p), (12, .sl 1 0 (bDim i) (bDim i)), (13, .sl 2 0 (bDim i) (bDim i)), (16, .int .i64 ((k + 1) : Nat))], [(0, some ⟨.rows 4 [[.int .i64 (i : Nat), .int .i64 (bPlain i : Nat), .ro (.ints .i64 (bE i)), .ro (.ints .i64 (bR i))]], true, 25⟩), (1, some ⟨.ints .i64 (vV b i (bVal i e) (sV b (bVal i e) (fdP (bPlain i) (bE i) b at_, (0 : Int)) (bDim i)) (sQ b (bVal i e) (fdP (bPlain i) (bE i) b at_, (0 : Int)) (bDim i)) (k + 1) ++ List.drop (k + 1) (bVal i e)), false, 3⟩), (2, some ⟨.ints .i64 (sV b (bVal i e) (fdP (bPlain i) (bE i) b at_, (0 : Int)) (bDim i)), false, 3⟩)], 3⟩ _ ?_ ⟨(k + 1), (p), by omega, by (first | omega | (have h9 := eF_bd (q := (p, 0)) hb hpp; rw [hr2] at h9; exact h9)), by exact hq2, rfl, rfl⟩ ⟨by simp [getT, PV.lo, lo1, hkw], by (first | ((first | (have hb1 := (vB_c1 (b := b) (q := (sQ b (bVal i e) (fdP (bPlain i) (bE i) b at_, (0 : Int)) (bDim i))) hvc (by assumption : (sV b (bVal i e) (fdP (bPlain i) (bE i) b at_, (0 : Int)) (bDim i))[k]?.getD 0 = 1)).trans (by rw [hQ, ← hr1]); simp [getH, Blk.lo, Cells.lo, lo1, vV_nx, hb1]; done) | (have hb1 := (vB_c0 (b := b) (q := (sQ b (bVal i e) (fdP (bPlain i) (bE i) b at_, (0 : Int)) (bDim i))) hvc (by assumption : ¬ (sV b (bVal i e) (fdP (bPlain i) (bE i) b at_, (0 : Int)) (bDim i))[k]?.getD 0 = 1)).trans (by rw [hQ, ← hr1]); simp [getH, Blk.lo, Cells.lo, lo1, vV_nx, hb1]; done))) | ((first | (have hb1 := vB_n1 (b := b) (q := (sQ b (bVal i e) (fdP (bPlain i) (bE i) b at_, (0 : Int)) (bDim i))) hvn (by assumption : (sV b (bVal i e) (fdP (bPlain i) (bE i) b at_, (0 : Int)) (bDim i))[k]?.getD 0 = 1); simp [getH, Blk.lo, Cells.lo, lo1, vV_nx, hb1]; done) | (have hb1 := vB_n0 (b := b) (q := (sQ b (bVal i e) (fdP (bPlain i) (bE i) b at_, (0 : Int)) (bDim i))) hvn (by assumption : ¬ (sV b (bVal i e) (fdP (bPlain i) (bE i) b at_, (0 : Int)) (bDim i))[k]?.getD 0 = 1); simp [getH, Blk.lo, Cells.lo, lo1, vV_nx, hb1, hdk]; done)))), rfl, by omega⟩
        omega
       ·clear hC56
        try simp at hc56
        refine swp_skip ?_
        try simp only [thn, inBlk]
        refine hK45 _ ?_; clear hK45
        refine swp_region ty_ok ?_
        try simp (maxSteps := 1000000) [bookV]
        repeat' apply And.intro
        any_goals (try omega)
        first | refine hL41 _ ⟨[(0, .ro (.ints .u8 b)), (5, .ptr 0 0 0 1), (10, .int .i64 (reP b p)), (12, .sl 1 0 (bDim i) (bDim i)), (13, .sl 2 0 (bDim i) (bDim i)), (16, .int .i64 ((k + 1) : Nat))], [(0, some ⟨.rows 4 [[.int .i64 (i : Nat), .int .i64 (bPlain i : Nat), .ro (.ints .i64 (bE i)), .ro (.ints .i64 (bR i))]], true, 25⟩), (1, some ⟨.ints .i64 (vV b i (bVal i e) (sV b (bVal i e) (fdP (bPlain i) (bE i) b at_, (0 : Int)) (bDim i)) (sQ b (bVal i e) (fdP (bPlain i) (bE i) b at_, (0 : Int)) (bDim i)) (k + 1) ++ List.drop (k + 1) (bVal i e)), false, 3⟩), (2, some ⟨.ints .i64 (sV b (bVal i e) (fdP (bPlain i) (bE i) b at_, (0 : Int)) (bDim i)), false, 3⟩)], 3⟩ _ ?_ ⟨(k + 1), (reP b p), by omega, by (first | omega | (have h9 := eF_bd (q := (p, 0)) hb hpp; rw [hr2] at h9; exact h9)), by exact hq2, rfl, rfl⟩ ⟨by simp [getT, PV.lo, lo1, hkw], by (first | ((first | (have hb1 := (vB_c1 (b := b) (q := (sQ b (bVal i e) (fdP (bPlain i) (bE i) b at_, (0 : Int)) (bDim i))) hvc (by assumption : (sV b (bVal i e) (fdP (bPlain i) (bE i) b at_, (0 : Int)) (bDim i))[k]?.getD 0 = 1)).trans (by rw [hQ, ← hr1]); simp [getH, Blk.lo, Cells.lo, lo1, vV_nx, hb1]; done) | (have hb1 := (vB_c0 (b := b) (q := (sQ b (bVal i e) (fdP (bPlain i) (bE i) b at_, (0 : Int)) (bDim i))) hvc (by assumption : ¬ (sV b (bVal i e) (fdP (bPlain i) (bE i) b at_, (0 : Int)) (bDim i))[k]?.getD 0 = 1)).trans (by rw [hQ, ← hr1]); simp [getH, Blk.lo, Cells.lo, lo1, vV_nx, hb1]; done))) | ((first | (have hb1 := vB_n1 (b := b) (q := (sQ b (bVal i e) (fdP (bPlain i) (bE i) b at_, (0 : Int)) (bDim i))) hvn (by assumption : (sV b (bVal i e) (fdP (bPlain i) (bE i) b at_, (0 : Int)) (bDim i))[k]?.getD 0 = 1); simp [getH, Blk.lo, Cells.lo, lo1, vV_nx, hb1]; done) | (have hb1 := vB_n0 (b := b) (q := (sQ b (bVal i e) (fdP (bPlain i) (bE i) b at_, (0 : Int)) (bDim i))) hvn (by assumption : ¬ (sV b (bVal i e) (fdP (bPlain i) (bE i) b at_, (0 : Int)) (bDim i))[k]?.getD 0 = 1); simp [getH, Blk.lo, Cells.lo, lo1, vV_nx, hb1, hdk]; done)))), rfl, by omega⟩ | refine hL41 _ ⟨[(0, .ro (.ints .u8 b)), (5, .ptr 0 0 0 1), (10, .int .i64 p), (12, .sl 1 0 (bDim i) (bDim i)), (13, .sl 2 0 (bDim i) (bDim i)), (16, .int .i64 ((k + 1) : Nat))], [(0, some ⟨.rows 4 [[.int .i64 (i : Nat), .int .i64 (bPlain i : Nat), .ro (.ints .i64 (bE i)), .ro (.ints .i64 (bR i))]], true, 25⟩), (1, some ⟨.ints .i64 (vV b i (bVal i e) (sV b (bVal i e) (fdP (bPlain i) (bE i) b at_, (0 : Int)) (bDim i)) (sQ b (bVal i e) (fdP (bPlain i) (bE i) b at_, (0 : Int)) (bDim i)) (k + 1) ++ List.drop (k + 1) (bVal i e)), false, 3⟩), (2, some ⟨.ints .i64 (sV b (bVal i e) (fdP (bPlain i) (bE i) b at_, (0 : Int)) (bDim i)), false, 3⟩)], 3⟩ _ ?_ ⟨(k + 1), (p), by omega, by (first | omega | (have h9 := eF_bd (q := (p, 0)) hb hpp; rw [hr2] at h9; exact h9)), by exact hq2, rfl, rfl⟩ ⟨by simp [getT, PV.lo, lo1, hkw], by (first | ((first | (have hb1 := (vB_c1 (b := b) (q := (sQ b (bVal i e) (fdP (bPlain i) (bE i) b at_, (0 : Int)) (bDim i))) hvc (by assumption : (sV b (bVal i e) (fdP (bPlain i) (bE i) b at_, (0 : Int)) (bDim i))[k]?.getD 0 = 1)).trans (by rw [hQ, ← hr1]); simp [getH, Blk.lo, Cells.lo, lo1, vV_nx, hb1]; done) | (have hb1 := (vB_c0 (b := b) (q := (sQ b (bVal i e) (fdP (bPlain i) (bE i) b at_, (0 : Int)) (bDim i))) hvc (by assumption : ¬ (sV b (bVal i e) (fdP (bPlain i) (bE i) b at_, (0 : Int)) (bDim i))[k]?.getD 0 = 1)).trans (by rw [hQ, ← hr1]); simp [getH, Blk.lo, Cells.lo, lo1, vV_nx, hb1]; done))) | ((first | (have hb1 := vB_n1 (b := b) (q := (sQ b (bVal i e) (fdP (bPlain i) (bE i) b at_, (0 : Int)) (bDim i))) hvn (by assumption : (sV b (bVal i e) (fdP (bPlain i) (bE i) b at_, (0 : Int)) (bDim i))[k]?.getD 0 = 1); simp [getH, Blk.lo, Cells.lo, lo1, vV_nx, hb1]; done) | (have hb1 := vB_n0 (b := b) (q := (sQ b (bVal i e) (fdP (bPlain i) (bE i) b at_, (0 : Int)) (bDim i))) hvn (by assumption : ¬ (sV b (bVal i e) (fdP (bPlain i) (bE i) b at_, (0 : Int)) (bDim i))[k]?.getD 0 = 1); simp [getH, Blk.lo, Cells.lo, lo1, vV_nx, hb1, hdk]; done)))), rfl, by omega⟩
        omega
     ·clear hC48
      try simp at hc48
      refine swp_skip ?_
      try simp only [thn, inBlk]
      refine hK46 _ ?_; clear hK46
      refine swp_seq fun K57 hK57 => ?_
      first | (obtain ⟨hr1, hr2⟩ := re_ok (b := b) (p := p) hc48; have hq2 := hq1.trans hr2) | (have hvn : ¬ vC i (bVal i e) k := fun h => (hc48 : (i : Int) = 11 → ¬ (bVal i e)[k]?.getD 0 = 16) (by rw [h.1]; rfl) h.2; have hq2 := vq_n hQ hvn) | (have hvn : ¬ vC i (bVal i e) k := fun h => (hc48 : i = 11 → ¬ (bVal i e)[k]?.getD 0 = 16) h.1 h.2; have hq2 := vq_n hQ hvn)
      refine swp_region ty_ok ?_
      try simp (maxSteps := 1000000) [bookV, hsgl]
      repeat' (first | apply And.intro | intro _)
      any_goals (first | (refine hK57 _ ?_; clear hK57) | (first | omega | (simp only [IntKind.wrap_i64] at *; omega) | (simp_all; done) | (simp_all; omega)))
      refine swp_if fun C58 hC58 => ?_
      try simp (maxSteps := 1000000) [bookV, hsgl]
      refine hC58 _ (fun hc58 => ?_) (fun hc58 => ?_)
      ·clear hC58
       try simp at hc58
       refine swp_region ty_ok ?_
       try simp (maxSteps := 1000000) [bookV, hgd, hgm, hst2, hst3, hng1, hng2, hlm, hlm2]
       repeat' (first | apply And.intro | intro _)
       any_goals (first | (refine hK45 _ ?_; clear hK45) | (first | omega | (simp only [IntKind.wrap_i64] at *; omega) | (simp_all; done) | (simp_all; omega)))
       refine swp_region ty_ok ?_
       try simp (maxSteps := 1000000) [bookV]
       repeat' apply And.intro
       any_goals (try omega)
       first | refine hL41 _ ⟨[(0, .ro (.ints .u8 b)), (5, .ptr 0 0 0 1), (10, .int .i64 (reP b p)), (12, .sl 1 0 (bDim i) (bDim i)), (13, .sl 2 0 (bDim i) (bDim i)), (16, .int .i64 ((k + 1) : Nat))], [(0, some ⟨.rows 4 [[.int .i64 (i : Nat), .int .i64 (bPlain i : Nat), .ro (.ints .i64 (bE i)), .ro (.ints .i64 (bR i))]], true, 25⟩), (1, some ⟨.ints .i64 (vV b i (bVal i e) (sV b (bVal i e) (fdP (bPlain i) (bE i) b at_, (0 : Int)) (bDim i)) (sQ b (bVal i e) (fdP (bPlain i) (bE i) b at_, (0 : Int)) (bDim i)) (k + 1) ++ List.drop (k + 1) (bVal i e)), false, 3⟩), (2, some ⟨.ints .i64 (sV b (bVal i e) (fdP (bPlain i) (bE i) b at_, (0 : Int)) (bDim i)), false, 3⟩)], 3⟩ _ ?_ ⟨(k + 1), (reP b p), by omega, by (first | omega | (have h9 := eF_bd (q := (p, 0)) hb hpp; rw [hr2] at h9; exact h9)), by exact hq2, rfl, rfl⟩ ⟨by simp [getT, PV.lo, lo1, hkw], by (first | ((first | (have hb1 := (vB_c1 (b := b) (q := (sQ b (bVal i e) (fdP (bPlain i) (bE i) b at_, (0 : Int)) (bDim i))) hvc (by assumption : (sV b (bVal i e) (fdP (bPlain i) (bE i) b at_, (0 : Int)) (bDim i))[k]?.getD 0 = 1)).trans (by rw [hQ, ← hr1]); simp [getH, Blk.lo, Cells.lo, lo1, vV_nx, hb1]; done) | (have hb1 := (vB_c0 (b := b) (q := (sQ b (bVal i e) (fdP (bPlain i) (bE i) b at_, (0 : Int)) (bDim i))) hvc (by assumption : ¬ (sV b (bVal i e) (fdP (bPlain i) (bE i) b at_, (0 : Int)) (bDim i))[k]?.getD 0 = 1)).trans (by rw [hQ, ← hr1]); simp [getH, Blk.lo, Cells.lo, lo1, vV_nx, hb1]; done))) | ((first | (have hb1 := vB_n1 (b := b) (q := (sQ b (bVal i e) (fdP (bPlain i) (bE i) b at_, (0 : Int)) (bDim i))) hvn (by assumption : (sV b (bVal i e) (fdP (bPlain i) (bE i) b at_, (0 : Int)) (bDim i))[k]?.getD 0 = 1); simp [getH, Blk.lo, Cells.lo, lo1, vV_nx, hb1]; done) | (have hb1 := vB_n0 (b := b) (q := (sQ b (bVal i e) (fdP (bPlain i) (bE i) b at_, (0 : Int)) (bDim i))) hvn (by assumption : ¬ (sV b (bVal i e) (fdP (bPlain i) (bE i) b at_, (0 : Int)) (bDim i))[k]?.getD 0 = 1); simp [getH, Blk.lo, Cells.lo, lo1, vV_nx, hb1, hdk]; done)))), rfl, by omega⟩ | refine hL41 _ ⟨[(0, .ro (.ints .u8 b)), (5, .ptr 0 0 0 1), (10, .int .i64 p), (12, .sl 1 0 (bDim i) (bDim i)), (13, .sl 2 0 (bDim i) (bDim i)), (16, .int .i64 ((k + 1) : Nat))], [(0, some ⟨.rows 4 [[.int .i64 (i : Nat), .int .i64 (bPlain i : Nat), .ro (.ints .i64 (bE i)), .ro (.ints .i64 (bR i))]], true, 25⟩), (1, some ⟨.ints .i64 (vV b i (bVal i e) (sV b (bVal i e) (fdP (bPlain i) (bE i) b at_, (0 : Int)) (bDim i)) (sQ b (bVal i e) (fdP (bPlain i) (bE i) b at_, (0 : Int)) (bDim i)) (k + 1) ++ List.drop (k + 1) (bVal i e)), false, 3⟩), (2, some ⟨.ints .i64 (sV b (bVal i e) (fdP (bPlain i) (bE i) b at_, (0 : Int)) (bDim i)), false, 3⟩)], 3⟩ _ ?_ ⟨(k + 1), (p), by omega, by (first | omega | (have h9 := eF_bd (q := (p, 0)) hb hpp; rw [hr2] at h9; exact h9)), by exact hq2, rfl, rfl⟩ ⟨by simp [getT, PV.lo, lo1, hkw], by (first | ((first | (have hb1 := (vB_c1 (b := b) (q := (sQ b (bVal i e) (fdP (bPlain i) (bE i) b at_, (0 : Int)) (bDim i))) hvc (by assumption : (sV b (bVal i e) (fdP (bPlain i) (bE i) b at_, (0 : Int)) (bDim i))[k]?.getD 0 = 1)).trans (by rw [hQ, ← hr1]); simp [getH, Blk.lo, Cells.lo, lo1, vV_nx, hb1]; done) | (have hb1 := (vB_c0 (b := b) (q := (sQ b (bVal i e) (fdP (bPlain i) (bE i) b at_, (0 : Int)) (bDim i))) hvc (by assumption : ¬ (sV b (bVal i e) (fdP (bPlain i) (bE i) b at_, (0 : Int)) (bDim i))[k]?.getD 0 = 1)).trans (by rw [hQ, ← hr1]); simp [getH, Blk.lo, Cells.lo, lo1, vV_nx, hb1]; done))) | ((first | (have hb1 := vB_n1 (b := b) (q := (sQ b (bVal i e) (fdP (bPlain i) (bE i) b at_, (0 : Int)) (bDim i))) hvn (by assumption : (sV b (bVal i e) (fdP (bPlain i) (bE i) b at_, (0 : Int)) (bDim i))[k]?.getD 0 = 1); simp [getH, Blk.lo, Cells.lo, lo1, vV_nx, hb1]; done) | (have hb1 := vB_n0 (b := b) (q := (sQ b (bVal i e) (fdP (bPlain i) (bE i) b at_, (0 : Int)) (bDim i))) hvn (by assumption : ¬ (sV b (bVal i e) (fdP (bPlain i) (bE i) b at_, (0 : Int)) (bDim i))[k]?.getD 0 = 1); simp [getH, Blk.lo, Cells.lo, lo1, vV_nx, hb1, hdk]; done)))), rfl, by omega⟩
       omega
      ·clear hC58
       try simp at hc58
       refine swp_skip ?_
       try simp only [thn, inBlk]
       refine hK45 _ ?_; clear hK45
       refine swp_region ty_ok ?_
       try simp (maxSteps := 1000000) [bookV]
       repeat' apply And.intro
       any_goals (try omega)
       first | refine hL41 _ ⟨[(0, .ro (.ints .u8 b)), (5, .ptr 0 0 0 1), (10, .int .i64 (reP b p)), (12, .sl 1 0 (bDim i) (bDim i)), (13, .sl 2 0 (bDim i) (bDim i)), (16, .int .i64 ((k + 1) : Nat))], [(0, some ⟨.rows 4 [[.int .i64 (i : Nat), .int .i64 (bPlain i : Nat), .ro (.ints .i64 (bE i)), .ro (.ints .i64 (bR i))]], true, 25⟩), (1, some ⟨.ints .i64 (vV b i (bVal i e) (sV b (bVal i e) (fdP (bPlain i) (bE i) b at_, (0 : Int)) (bDim i)) (sQ b (bVal i e) (fdP (bPlain i) (bE i) b at_, (0 : Int)) (bDim i)) (k + 1) ++ List.drop (k + 1) (bVal i e)), false, 3⟩), (2, some ⟨.ints .i64 (sV b (bVal i e) (fdP (bPlain i) (bE i) b at_, (0 : Int)) (bDim i)), false, 3⟩)], 3⟩ _ ?_ ⟨(k + 1), (reP b p), by omega, by (first | omega | (have h9 := eF_bd (q := (p, 0)) hb hpp; rw [hr2] at h9; exact h9)), by exact hq2, rfl, rfl⟩ ⟨by simp [getT, PV.lo, lo1, hkw], by (first | ((first | (have hb1 := (vB_c1 (b := b) (q := (sQ b (bVal i e) (fdP (bPlain i) (bE i) b at_, (0 : Int)) (bDim i))) hvc (by assumption : (sV b (bVal i e) (fdP (bPlain i) (bE i) b at_, (0 : Int)) (bDim i))[k]?.getD 0 = 1)).trans (by rw [hQ, ← hr1]); simp [getH, Blk.lo, Cells.lo, lo1, vV_nx, hb1]; done) | (have hb1 := (vB_c0 (b := b) (q := (sQ b (bVal i e) (fdP (bPlain i) (bE i) b at_, (0 : Int)) (bDim i))) hvc (by assumption : ¬ (sV b (bVal i e) (fdP (bPlain i) (bE i) b at_, (0 : Int)) (bDim i))[k]?.getD 0 = 1)).trans (by rw [hQ, ← hr1]); simp [getH, Blk.lo, Cells.lo, lo1, vV_nx, hb1]; done))) | ((first | (have hb1 := vB_n1 (b := b) (q := (sQ b (bVal i e) (fdP (bPlain i) (bE i) b at_, (0 : Int)) (bDim i))) hvn (by assumption : (sV b (bVal i e) (fdP (bPlain i) (bE i) b at_, (0 : Int)) (bDim i))[k]?.getD 0 = 1); simp [getH, Blk.lo, Cells.lo, lo1, vV_nx, hb1]; done) | (have hb1 := vB_n0 (b := b) (q := (sQ b (bVal i e) (fdP (bPlain i) (bE i) b at_, (0 : Int)) (bDim i))) hvn (by assumption : ¬ (sV b (bVal i e) (fdP (bPlain i) (bE i) b at_, (0 : Int)) (bDim i))[k]?.getD 0 = 1); simp [getH, Blk.lo, Cells.lo, lo1, vV_nx, hb1, hdk]; done)))), rfl, by omega⟩ | refine hL41 _ ⟨[(0, .ro (.ints .u8 b)), (5, .ptr 0 0 0 1), (10, .int .i64 p), (12, .sl 1 0 (bDim i) (bDim i)), (13, .sl 2 0 (bDim i) (bDim i)), (16, .int .i64 ((k + 1) : Nat))], [(0, some ⟨.rows 4 [[.int .i64 (i : Nat), .int .i64 (bPlain i : Nat), .ro (.ints .i64 (bE i)), .ro (.ints .i64 (bR i))]], true, 25⟩), (1, some ⟨.ints .i64 (vV b i (bVal i e) (sV b (bVal i e) (fdP (bPlain i) (bE i) b at_, (0 : Int)) (bDim i)) (sQ b (bVal i e) (fdP (bPlain i) (bE i) b at_, (0 : Int)) (bDim i)) (k + 1) ++ List.drop (k + 1) (bVal i e)), false, 3⟩), (2, some ⟨.ints .i64 (sV b (bVal i e) (fdP (bPlain i) (bE i) b at_, (0 : Int)) (bDim i)), false, 3⟩)], 3⟩ _ ?_ ⟨(k + 1), (p), by omega, by (first | omega | (have h9 := eF_bd (q := (p, 0)) hb hpp; rw [hr2] at h9; exact h9)), by exact hq2, rfl, rfl⟩ ⟨by simp [getT, PV.lo, lo1, hkw], by (first | ((first | (have hb1 := (vB_c1 (b := b) (q := (sQ b (bVal i e) (fdP (bPlain i) (bE i) b at_, (0 : Int)) (bDim i))) hvc (by assumption : (sV b (bVal i e) (fdP (bPlain i) (bE i) b at_, (0 : Int)) (bDim i))[k]?.getD 0 = 1)).trans (by rw [hQ, ← hr1]); simp [getH, Blk.lo, Cells.lo, lo1, vV_nx, hb1]; done) | (have hb1 := (vB_c0 (b := b) (q := (sQ b (bVal i e) (fdP (bPlain i) (bE i) b at_, (0 : Int)) (bDim i))) hvc (by assumption : ¬ (sV b (bVal i e) (fdP (bPlain i) (bE i) b at_, (0 : Int)) (bDim i))[k]?.getD 0 = 1)).trans (by rw [hQ, ← hr1]); simp [getH, Blk.lo, Cells.lo, lo1, vV_nx, hb1]; done))) | ((first | (have hb1 := vB_n1 (b := b) (q := (sQ b (bVal i e) (fdP (bPlain i) (bE i) b at_, (0 : Int)) (bDim i))) hvn (by assumption : (sV b (bVal i e) (fdP (bPlain i) (bE i) b at_, (0 : Int)) (bDim i))[k]?.getD 0 = 1); simp [getH, Blk.lo, Cells.lo, lo1, vV_nx, hb1]; done) | (have hb1 := vB_n0 (b := b) (q := (sQ b (bVal i e) (fdP (bPlain i) (bE i) b at_, (0 : Int)) (bDim i))) hvn (by assumption : ¬ (sV b (bVal i e) (fdP (bPlain i) (bE i) b at_, (0 : Int)) (bDim i))[k]?.getD 0 = 1); simp [getH, Blk.lo, Cells.lo, lo1, vV_nx, hb1, hdk]; done)))), rfl, by omega⟩
       omega
    ·clear hC44
     try simp at hc44
     refine swp_exit ?_
     simp [thn, inBlk]
     refine hK39 _ ?_; clear hK39
     refine swp_seq fun K59 hK59 => ?_
     refine swp_region ty_ok ?_
     try simp (maxSteps := 1000000) [bookV]
     repeat' (first | apply And.intro | intro _)
     any_goals (first | (refine hK59 _ ?_; clear hK59) | (first | omega | (simp only [IntKind.wrap_i64] at *; omega) | (simp_all; done) | (simp_all; omega)))
     refine swp_ret ?_
     simp [fnPost, Try.results59, resP, tupOf]
     have hke2 : k = bDim i := (by omega)
     subst hke2
     obtain ⟨f1, f2⟩ := hgQ_eq hvs hvl
     have h9 : (hgQ i b at_).2 = 0 := by rw [f1]; exact congrArg Prod.snd hQ
     have h8 : (hgQ i b at_).1 = p := by rw [f1]; exact congrArg Prod.fst hQ
     obtain ⟨e1, e2, e3⟩ := hg_w hf0 hsg h9
     rw [e1, e2, e3, List.drop_eq_nil_of_le (by omega), List.append_nil, f2, vV_len]
     exact ⟨by omega, rfl, h8, rfl⟩

theorem asked_ok (i : Nat) (h1 : 1 ≤ i) (h2 : i ≤ 11)  : PCall Try.prog 51 [bookV i] (.int .i64 0) := by
 refine pcall_body ty_ok Try.func51 rfl (by rfl) (by simp) ?_
 rw [Try.ntmps51]
 refine swp_seq fun K1 hK1 => ?_
 refine swp_region ty_ok ?_
 try simp (maxSteps := 1000000) [bookV]
 repeat' (first | apply And.intro | intro _)
 any_goals (first | (refine hK1 _ ?_; clear hK1) | (first | omega | (simp only [IntKind.wrap_i64] at *; omega) | (simp_all; done) | (simp_all; omega)))
 refine swp_seq fun K2 hK2 => ?_
 refine swp_seq fun K3 hK3 => ?_
 refine swp_region ty_ok ?_
 refine runs_cut 1 fun R4 hR4 => ?_
 try simp (maxSteps := 1000000) [bookV, List.take_succ_cons, List.take_zero, List.drop_succ_cons, List.drop_zero]
 repeat' (first | apply And.intro | intro _)
 any_goals (first | (refine hR4 _ ?_; clear hR4) | (first | omega | (simp only [IntKind.wrap_i64] at *; omega) | (simp_all; done) | (simp_all; omega)))
 refine runs_cut 1 fun R5 hR5 => ?_
 try simp (maxSteps := 1000000) [bookV, List.take_succ_cons, List.take_zero, List.drop_succ_cons, List.drop_zero]
 refine .inl ⟨_, rmay_book i h1 (by omega), ?_⟩
 try simp (maxSteps := 1000000) [bookV]
 repeat' (first | apply And.intro | intro _)
 any_goals (first | (refine hR5 _ ?_; clear hR5) | (first | omega | (simp only [IntKind.wrap_i64] at *; omega) | (simp_all; done) | (simp_all; omega)))
 try simp (maxSteps := 1000000) [bookV, List.take_succ_cons, List.take_zero, List.drop_succ_cons, List.drop_zero]
 repeat' (first | apply And.intro | intro _)
 any_goals (first | (refine hK3 _ ?_; clear hK3) | (first | omega | (simp only [IntKind.wrap_i64] at *; omega) | (simp_all; done) | (simp_all; omega)))
 refine swp_if fun C6 hC6 => ?_
 try simp (maxSteps := 1000000) [bookV]
 refine hC6 _ (fun hc6 => ?_) (fun hc6 => ?_)
 ·exact absurd hc6 (by simp)
 ·clear hC6
  try simp at hc6
  refine swp_skip ?_
  try simp only [thn, inBlk]
  refine hK2 _ ?_; clear hK2
  refine swp_seq fun K7 hK7 => ?_
  refine swp_seq fun K8 hK8 => ?_
  refine swp_region ty_ok ?_
  try simp (maxSteps := 1000000) [bookV]
  repeat' (first | apply And.intro | intro _)
  any_goals (first | (refine hK8 _ ?_; clear hK8) | (first | omega | (simp only [IntKind.wrap_i64] at *; omega) | (simp_all; done) | (simp_all; omega)))
  refine swp_if fun C9 hC9 => ?_
  try simp (maxSteps := 1000000) [bookV]
  refine hC9 _ (fun hc9 => ?_) (fun hc9 => ?_)
  ·exfalso
   have h := hc9
   simp at h
   omega
  ·clear hC9
   try simp at hc9
   refine swp_skip ?_
   try simp only [thn, inBlk]
   refine hK7 _ ?_; clear hK7
   refine swp_seq fun K10 hK10 => ?_
   refine swp_region ty_ok ?_
   try simp (maxSteps := 1000000) [bookV]
   repeat' (first | apply And.intro | intro _)
   any_goals (first | (refine hK10 _ ?_; clear hK10) | (first | omega | (simp only [IntKind.wrap_i64] at *; omega) | (simp_all; done) | (simp_all; omega)))
   refine swp_ret ?_
   simp [fnPost, Try.results51, resP, tupOf]

theorem asked_12  : PCall Try.prog 51 [bookV 12] (.int .i64 2) := by
 refine pcall_body ty_ok Try.func51 rfl (by rfl) (by simp) ?_
 rw [Try.ntmps51]
 refine swp_seq fun K1 hK1 => ?_
 refine swp_region ty_ok ?_
 try simp (maxSteps := 1000000) [bk12]
 repeat' (first | apply And.intro | intro _)
 any_goals (first | (refine hK1 _ ?_; clear hK1) | (first | omega | (simp only [IntKind.wrap_i64] at *; omega) | (simp_all; done) | (simp_all; omega)))
 refine swp_seq fun K2 hK2 => ?_
 refine swp_seq fun K3 hK3 => ?_
 refine swp_region ty_ok ?_
 refine runs_cut 1 fun R4 hR4 => ?_
 try simp (maxSteps := 1000000) [bk12, List.take_succ_cons, List.take_zero, List.drop_succ_cons, List.drop_zero]
 repeat' (first | apply And.intro | intro _)
 any_goals (first | (refine hR4 _ ?_; clear hR4) | (first | omega | (simp only [IntKind.wrap_i64] at *; omega) | (simp_all; done) | (simp_all; omega)))
 refine runs_cut 1 fun R5 hR5 => ?_
 try simp (maxSteps := 1000000) [bk12, List.take_succ_cons, List.take_zero, List.drop_succ_cons, List.drop_zero]
 refine .inl ⟨_, rmay_book 12 (by omega) (by omega), ?_⟩
 try simp (maxSteps := 1000000) [bk12]
 repeat' (first | apply And.intro | intro _)
 any_goals (first | (refine hR5 _ ?_; clear hR5) | (first | omega | (simp only [IntKind.wrap_i64] at *; omega) | (simp_all; done) | (simp_all; omega)))
 try simp (maxSteps := 1000000) [bk12, List.take_succ_cons, List.take_zero, List.drop_succ_cons, List.drop_zero]
 repeat' (first | apply And.intro | intro _)
 any_goals (first | (refine hK3 _ ?_; clear hK3) | (first | omega | (simp only [IntKind.wrap_i64] at *; omega) | (simp_all; done) | (simp_all; omega)))
 refine swp_if fun C6 hC6 => ?_
 try simp (maxSteps := 1000000) [bk12]
 refine hC6 _ (fun hc6 => ?_) (fun hc6 => ?_)
 ·exact absurd hc6 (by simp)
 ·clear hC6
  try simp at hc6
  refine swp_skip ?_
  try simp only [thn, inBlk]
  refine hK2 _ ?_; clear hK2
  refine swp_seq fun K7 hK7 => ?_
  refine swp_seq fun K8 hK8 => ?_
  refine swp_region ty_ok ?_
  try simp (maxSteps := 1000000) [bk12]
  repeat' (first | apply And.intro | intro _)
  any_goals (first | (refine hK8 _ ?_; clear hK8) | (first | omega | (simp only [IntKind.wrap_i64] at *; omega) | (simp_all; done) | (simp_all; omega)))
  refine swp_if fun C9 hC9 => ?_
  try simp (maxSteps := 1000000) [bk12]
  refine hC9 _ (fun hc9 => ?_) (fun hc9 => ?_)
  ·clear hC9
   try simp at hc9
   refine swp_seq fun K10 hK10 => ?_
   refine swp_region ty_ok ?_
   try simp (maxSteps := 1000000) [bk12]
   repeat' (first | apply And.intro | intro _)
   any_goals (first | (refine hK10 _ ?_; clear hK10) | (first | omega | (simp only [IntKind.wrap_i64] at *; omega) | (simp_all; done) | (simp_all; omega)))
   refine swp_ret ?_
   simp [fnPost, Try.results51, resP, tupOf]
  ·exact absurd hc9 (by simp)

theorem asked_no (id p : Int) (es rs : List Int) (he : es.length ≤ 140737488355328) (hr : rs.length ≤ 140737488355328) (h : rightB id p es rs = false) : PCall Try.prog 51 [.agg [.int .i64 id, .int .i64 p, .ro (.ints .i64 es), .ro (.ints .i64 rs)]] (.int .i64 8) := by
 refine pcall_body ty_ok Try.func51 rfl (by rfl) (by simp) ?_
 rw [Try.ntmps51]
 refine swp_seq fun K1 hK1 => ?_
 refine swp_region ty_ok ?_
 try simp (maxSteps := 1000000)
 repeat' (first | apply And.intro | intro _)
 any_goals (first | (refine hK1 _ ?_; clear hK1) | (first | omega | (simp only [IntKind.wrap_i64] at *; omega) | (simp_all; done) | (simp_all; omega)))
 refine swp_seq fun K2 hK2 => ?_
 refine swp_seq fun K3 hK3 => ?_
 refine swp_region ty_ok ?_
 refine runs_cut 1 fun R4 hR4 => ?_
 try simp (maxSteps := 1000000) [h, List.take_succ_cons, List.take_zero, List.drop_succ_cons, List.drop_zero]
 repeat' (first | apply And.intro | intro _)
 any_goals (first | (refine hR4 _ ?_; clear hR4) | (first | omega | (simp only [IntKind.wrap_i64] at *; omega) | (simp_all; done) | (simp_all; omega)))
 refine runs_cut 1 fun R5 hR5 => ?_
 try simp (maxSteps := 1000000) [h, List.take_succ_cons, List.take_zero, List.drop_succ_cons, List.drop_zero]
 refine .inl ⟨_, rmay_ok id p es rs he hr, ?_⟩
 try simp (maxSteps := 1000000) [h]
 repeat' (first | apply And.intro | intro _)
 any_goals (first | (refine hR5 _ ?_; clear hR5) | (first | omega | (simp only [IntKind.wrap_i64] at *; omega) | (simp_all; done) | (simp_all; omega)))
 try simp (maxSteps := 1000000) [h, List.take_succ_cons, List.take_zero, List.drop_succ_cons, List.drop_zero]
 repeat' (first | apply And.intro | intro _)
 any_goals (first | (refine hK3 _ ?_; clear hK3) | (first | omega | (simp only [IntKind.wrap_i64] at *; omega) | (simp_all; done) | (simp_all; omega)))
 refine swp_if fun C6 hC6 => ?_
 try simp (maxSteps := 1000000) [h]
 refine hC6 _ (fun hc6 => ?_) (fun hc6 => ?_)
 ·clear hC6
  try simp at hc6
  refine swp_seq fun K7 hK7 => ?_
  refine swp_region ty_ok ?_
  try simp (maxSteps := 1000000)
  repeat' (first | apply And.intro | intro _)
  any_goals (first | (refine hK7 _ ?_; clear hK7) | (first | omega | (simp only [IntKind.wrap_i64] at *; omega) | (simp_all; done) | (simp_all; omega)))
  refine swp_ret ?_
  simp [fnPost, Try.results51, resP, tupOf]
 ·exact absurd hc6 (by simp [h])

theorem rhget_ok (i : Nat) (h1 : 1 ≤ i) (h2 : i ≤ 11) (b : List Int) (at_ : Int) (hb : b.length ≤ 140737488355328) (hp : ∀ k : Nat, 0 ≤ b[k]?.getD 0 ∧ b[k]?.getD 0 ≤ 255) (hat : -9223372036854775808 ≤ at_ ∧ at_ ≤ 9223372036854775807) : PCall Try.prog 18 [.ro (.ints .u8 b), .int .i64 at_, bookV i] (.tup [.ro (.ints .i64 (hgV i b at_)), .int .i64 (hgP i b at_), .int .i64 (hgE i b at_)]) := by
 refine pcall_body ty_ok Try.func18 rfl (by rfl) (by simp) ?_
 rw [Try.ntmps18]
 refine swp_seq fun K1 hK1 => ?_
 refine swp_region ty_ok ?_
 try simp (maxSteps := 1000000) [bookV]
 repeat' (first | apply And.intro | intro _)
 any_goals (first | (refine hK1 _ ?_; clear hK1) | (first | omega | (simp only [IntKind.wrap_i64] at *; omega) | (simp_all; done) | (simp_all; omega)))
 refine swp_seq fun K2 hK2 => ?_
 refine swp_region ty_ok ?_
 refine runs_cut 1 fun R3 hR3 => ?_
 try simp (maxSteps := 1000000) [bookV, List.take_succ_cons, List.take_zero, List.drop_succ_cons, List.drop_zero]
 repeat' (first | apply And.intro | intro _)
 any_goals (first | (refine hR3 _ ?_; clear hR3) | (first | omega | (simp only [IntKind.wrap_i64] at *; omega) | (simp_all; done) | (simp_all; omega)))
 refine runs_cut 1 fun R4 hR4 => ?_
 try simp (maxSteps := 1000000) [bookV, List.take_succ_cons, List.take_zero, List.drop_succ_cons, List.drop_zero]
 refine .inl ⟨_, asked_ok i h1 h2, ?_⟩
 try simp (maxSteps := 1000000) [bookV]
 repeat' (first | apply And.intro | intro _)
 any_goals (first | (refine hR4 _ ?_; clear hR4) | (first | omega | (simp only [IntKind.wrap_i64] at *; omega) | (simp_all; done) | (simp_all; omega)))
 try simp (maxSteps := 1000000) [bookV, List.take_succ_cons, List.take_zero, List.drop_succ_cons, List.drop_zero]
 repeat' (first | apply And.intro | intro _)
 any_goals (first | (refine hK2 _ ?_; clear hK2) | (first | omega | (simp only [IntKind.wrap_i64] at *; omega) | (simp_all; done) | (simp_all; omega)))
 refine swp_seq fun K5 hK5 => ?_
 refine swp_seq fun K6 hK6 => ?_
 refine swp_region ty_ok ?_
 try simp (maxSteps := 1000000) [bookV]
 repeat' (first | apply And.intro | intro _)
 any_goals (first | (refine hK6 _ ?_; clear hK6) | (first | omega | (simp only [IntKind.wrap_i64] at *; omega) | (simp_all; done) | (simp_all; omega)))
 refine swp_if fun C7 hC7 => ?_
 try simp (maxSteps := 1000000) [bookV]
 refine hC7 _ (fun hc7 => ?_) (fun hc7 => ?_)
 ·exact absurd hc7 (by simp)
 ·clear hC7
  try simp at hc7
  refine swp_skip ?_
  try simp only [thn, inBlk]
  refine hK5 _ ?_; clear hK5
  refine swp_seq fun K8 hK8 => ?_
  refine swp_region ty_ok ?_
  refine runs_cut 3 fun R9 hR9 => ?_
  try simp (maxSteps := 1000000) [bookV, List.take_succ_cons, List.take_zero, List.drop_succ_cons, List.drop_zero]
  repeat' (first | apply And.intro | intro _)
  any_goals (first | (refine hR9 _ ?_; clear hR9) | (first | omega | (simp only [IntKind.wrap_i64] at *; omega) | (simp_all; done) | (simp_all; omega)))
  refine runs_cut 1 fun R10 hR10 => ?_
  try simp (maxSteps := 1000000) [bookV, List.take_succ_cons, List.take_zero, List.drop_succ_cons, List.drop_zero]
  refine .inl ⟨_, rread_ok i h1 h2 b at_ hb hp hat, ?_⟩
  try simp (maxSteps := 1000000) [bookV]
  repeat' (first | apply And.intro | intro _)
  any_goals (first | (refine hR10 _ ?_; clear hR10) | (first | omega | (simp only [IntKind.wrap_i64] at *; omega) | (simp_all; done) | (simp_all; omega)))
  try simp (maxSteps := 1000000) [bookV, List.take_succ_cons, List.take_zero, List.drop_succ_cons, List.drop_zero]
  repeat' (first | apply And.intro | intro _)
  any_goals (first | (refine hK8 _ ?_; clear hK8) | (first | omega | (simp only [IntKind.wrap_i64] at *; omega) | (simp_all; done) | (simp_all; omega)))
  refine swp_ret ?_
  simp [fnPost, Try.results18, resP, tupOf]

theorem rhget_e (id p : Int) (es rs : List Int) (E : Int) (hE : ¬ E = 0) (ha : PCall Try.prog 51 [.agg [.int .i64 id, .int .i64 p, .ro (.ints .i64 es), .ro (.ints .i64 rs)]] (.int .i64 E)) (b : List Int) (at_ : Int) : PCall Try.prog 18 [.ro (.ints .u8 b), .int .i64 at_, .agg [.int .i64 id, .int .i64 p, .ro (.ints .i64 es), .ro (.ints .i64 rs)]] (.tup [.ro (.ints .i64 []), .int .i64 0, .int .i64 E]) := by
 refine pcall_body ty_ok Try.func18 rfl (by rfl) (by simp) ?_
 rw [Try.ntmps18]
 refine swp_seq fun K1 hK1 => ?_
 refine swp_region ty_ok ?_
 try simp (maxSteps := 1000000)
 repeat' (first | apply And.intro | intro _)
 any_goals (first | (refine hK1 _ ?_; clear hK1) | (first | omega | (simp only [IntKind.wrap_i64] at *; omega) | (simp_all; done) | (simp_all; omega)))
 refine swp_seq fun K2 hK2 => ?_
 refine swp_region ty_ok ?_
 refine runs_cut 1 fun R3 hR3 => ?_
 try simp (maxSteps := 1000000) [List.take_succ_cons, List.take_zero, List.drop_succ_cons, List.drop_zero]
 repeat' (first | apply And.intro | intro _)
 any_goals (first | (refine hR3 _ ?_; clear hR3) | (first | omega | (simp only [IntKind.wrap_i64] at *; omega) | (simp_all; done) | (simp_all; omega)))
 refine runs_cut 1 fun R4 hR4 => ?_
 try simp (maxSteps := 1000000) [List.take_succ_cons, List.take_zero, List.drop_succ_cons, List.drop_zero]
 refine .inl ⟨_, ha, ?_⟩
 try simp (maxSteps := 1000000)
 repeat' (first | apply And.intro | intro _)
 any_goals (first | (refine hR4 _ ?_; clear hR4) | (first | omega | (simp only [IntKind.wrap_i64] at *; omega) | (simp_all; done) | (simp_all; omega)))
 try simp (maxSteps := 1000000) [List.take_succ_cons, List.take_zero, List.drop_succ_cons, List.drop_zero]
 repeat' (first | apply And.intro | intro _)
 any_goals (first | (refine hK2 _ ?_; clear hK2) | (first | omega | (simp only [IntKind.wrap_i64] at *; omega) | (simp_all; done) | (simp_all; omega)))
 refine swp_seq fun K5 hK5 => ?_
 refine swp_seq fun K6 hK6 => ?_
 refine swp_region ty_ok ?_
 try simp (maxSteps := 1000000)
 repeat' (first | apply And.intro | intro _)
 any_goals (first | (refine hK6 _ ?_; clear hK6) | (first | omega | (simp only [IntKind.wrap_i64] at *; omega) | (simp_all; done) | (simp_all; omega)))
 refine swp_if fun C7 hC7 => ?_
 try simp (maxSteps := 1000000)
 refine hC7 _ (fun hc7 => ?_) (fun hc7 => ?_)
 ·clear hC7
  try simp at hc7
  refine swp_seq fun K8 hK8 => ?_
  refine swp_region ty_ok ?_
  try simp (maxSteps := 1000000)
  repeat' (first | apply And.intro | intro _)
  any_goals (first | (refine hK8 _ ?_; clear hK8) | (first | omega | (simp only [IntKind.wrap_i64] at *; omega) | (simp_all; done) | (simp_all; omega)))
  refine swp_ret ?_
  simp [fnPost, Try.results18, resP, tupOf]
 ·exact absurd hc7 (by simpa using hE)

theorem hget_12 (b : List Int) (at_ : Int) : PCall Try.prog 17 [.ro (.ints .u8 b), .int .i64 at_, bookV 12] (.tup [.ro (.ints .i64 []), .int .i64 0, .int .i64 2]) := by
 refine pcall_body ty_ok Try.func17 rfl (by rfl) (by simp) ?_
 rw [Try.ntmps17]
 refine swp_seq fun K1 hK1 => ?_
 refine swp_region ty_ok ?_
 try simp (maxSteps := 1000000) [bk12]
 repeat' (first | apply And.intro | intro _)
 any_goals (first | (refine hK1 _ ?_; clear hK1) | (first | omega | (simp only [IntKind.wrap_i64] at *; omega) | (simp_all; done) | (simp_all; omega)))
 refine swp_seq fun K2 hK2 => ?_
 refine swp_seq fun K3 hK3 => ?_
 refine swp_region ty_ok ?_
 try simp (maxSteps := 1000000) [bk12]
 repeat' (first | apply And.intro | intro _)
 any_goals (first | (refine hK3 _ ?_; clear hK3) | (first | omega | (simp only [IntKind.wrap_i64] at *; omega) | (simp_all; done) | (simp_all; omega)))
 refine swp_if fun C4 hC4 => ?_
 try simp (maxSteps := 1000000) [bk12]
 refine hC4 _ (fun hc4 => ?_) (fun hc4 => ?_)
 ·clear hC4
  try simp at hc4
  refine swp_seq fun K5 hK5 => ?_
  refine swp_region ty_ok ?_
  refine runs_cut 1 fun R6 hR6 => ?_
  try simp (maxSteps := 1000000) [bk12, List.take_succ_cons, List.take_zero, List.drop_succ_cons, List.drop_zero]
  repeat' (first | apply And.intro | intro _)
  any_goals (first | (refine hR6 _ ?_; clear hR6) | (first | omega | (simp only [IntKind.wrap_i64] at *; omega) | (simp_all; done) | (simp_all; omega)))
  refine runs_cut 1 fun R7 hR7 => ?_
  try simp (maxSteps := 1000000) [bk12, List.take_succ_cons, List.take_zero, List.drop_succ_cons, List.drop_zero]
  refine .inl ⟨_, checked_12, ?_⟩
  try simp (maxSteps := 1000000) [bk12]
  repeat' (first | apply And.intro | intro _)
  any_goals (first | (refine hR7 _ ?_; clear hR7) | (first | omega | (simp only [IntKind.wrap_i64] at *; omega) | (simp_all; done) | (simp_all; omega)))
  try simp (maxSteps := 1000000) [bk12, List.take_succ_cons, List.take_zero, List.drop_succ_cons, List.drop_zero]
  repeat' (first | apply And.intro | intro _)
  any_goals (first | (refine hK5 _ ?_; clear hK5) | (first | omega | (simp only [IntKind.wrap_i64] at *; omega) | (simp_all; done) | (simp_all; omega)))
  refine swp_ret ?_
  simp [fnPost, Try.results17, resP, tupOf]
 ·exact absurd hc4 (by simp)

theorem hget_no (id p : Int) (es rs : List Int) (h : rightB id p es rs = false) (b : List Int) (at_ : Int) : PCall Try.prog 17 [.ro (.ints .u8 b), .int .i64 at_, .agg [.int .i64 id, .int .i64 p, .ro (.ints .i64 es), .ro (.ints .i64 rs)]] (.tup [.ro (.ints .i64 []), .int .i64 0, .int .i64 8]) := by
 refine pcall_body ty_ok Try.func17 rfl (by rfl) (by simp) ?_
 rw [Try.ntmps17]
 refine swp_seq fun K1 hK1 => ?_
 refine swp_region ty_ok ?_
 try simp (maxSteps := 1000000)
 repeat' (first | apply And.intro | intro _)
 any_goals (first | (refine hK1 _ ?_; clear hK1) | (first | omega | (simp only [IntKind.wrap_i64] at *; omega) | (simp_all; done) | (simp_all; omega)))
 refine swp_seq fun K2 hK2 => ?_
 refine swp_seq fun K3 hK3 => ?_
 refine swp_region ty_ok ?_
 try simp (maxSteps := 1000000)
 repeat' (first | apply And.intro | intro _)
 any_goals (first | (refine hK3 _ ?_; clear hK3) | (first | omega | (simp only [IntKind.wrap_i64] at *; omega) | (simp_all; done) | (simp_all; omega)))
 refine swp_if fun C4 hC4 => ?_
 try simp (maxSteps := 1000000)
 refine hC4 _ (fun hc4 => ?_) (fun hc4 => ?_)
 ·clear hC4
  try simp at hc4
  refine swp_seq fun K5 hK5 => ?_
  refine swp_region ty_ok ?_
  refine runs_cut 1 fun R6 hR6 => ?_
  try simp (maxSteps := 1000000) [List.take_succ_cons, List.take_zero, List.drop_succ_cons, List.drop_zero]
  repeat' (first | apply And.intro | intro _)
  any_goals (first | (refine hR6 _ ?_; clear hR6) | (first | omega | (simp only [IntKind.wrap_i64] at *; omega) | (simp_all; done) | (simp_all; omega)))
  refine runs_cut 1 fun R7 hR7 => ?_
  try simp (maxSteps := 1000000) [List.take_succ_cons, List.take_zero, List.drop_succ_cons, List.drop_zero]
  refine .inl ⟨_, checked_no id p es rs h, ?_⟩
  try simp (maxSteps := 1000000)
  repeat' (first | apply And.intro | intro _)
  any_goals (first | (refine hR7 _ ?_; clear hR7) | (first | omega | (simp only [IntKind.wrap_i64] at *; omega) | (simp_all; done) | (simp_all; omega)))
  try simp (maxSteps := 1000000) [List.take_succ_cons, List.take_zero, List.drop_succ_cons, List.drop_zero]
  repeat' (first | apply And.intro | intro _)
  any_goals (first | (refine hK5 _ ?_; clear hK5) | (first | omega | (simp only [IntKind.wrap_i64] at *; omega) | (simp_all; done) | (simp_all; omega)))
  refine swp_ret ?_
  simp [fnPost, Try.results17, resP, tupOf]
 ·clear hC4
  try simp at hc4
  refine swp_skip ?_
  try simp only [thn, inBlk]
  refine hK2 _ ?_; clear hK2
  refine swp_seq fun K8 hK8 => ?_
  refine swp_region ty_ok ?_
  refine runs_cut 3 fun R9 hR9 => ?_
  try simp (maxSteps := 1000000) [List.take_succ_cons, List.take_zero, List.drop_succ_cons, List.drop_zero]
  repeat' (first | apply And.intro | intro _)
  any_goals (first | (refine hR9 _ ?_; clear hR9) | (first | omega | (simp only [IntKind.wrap_i64] at *; omega) | (simp_all; done) | (simp_all; omega)))
  refine runs_cut 1 fun R10 hR10 => ?_
  try simp (maxSteps := 1000000) [List.take_succ_cons, List.take_zero, List.drop_succ_cons, List.drop_zero]
  refine .inl ⟨_, read_no id p es rs h b at_, ?_⟩
  try simp (maxSteps := 1000000)
  repeat' (first | apply And.intro | intro _)
  any_goals (first | (refine hR10 _ ?_; clear hR10) | (first | omega | (simp only [IntKind.wrap_i64] at *; omega) | (simp_all; done) | (simp_all; omega)))
  try simp (maxSteps := 1000000) [List.take_succ_cons, List.take_zero, List.drop_succ_cons, List.drop_zero]
  repeat' (first | apply And.intro | intro _)
  any_goals (first | (refine hK8 _ ?_; clear hK8) | (first | omega | (simp only [IntKind.wrap_i64] at *; omega) | (simp_all; done) | (simp_all; omega)))
  refine swp_seq fun K11 hK11 => ?_
  refine swp_seq fun K12 hK12 => ?_
  refine swp_region ty_ok ?_
  try simp (maxSteps := 1000000)
  repeat' (first | apply And.intro | intro _)
  any_goals (first | (refine hK12 _ ?_; clear hK12) | (first | omega | (simp only [IntKind.wrap_i64] at *; omega) | (simp_all; done) | (simp_all; omega)))
  refine swp_if fun C13 hC13 => ?_
  try simp (maxSteps := 1000000)
  refine hC13 _ (fun hc13 => ?_) (fun hc13 => ?_)
  ·clear hC13
   try simp at hc13
   refine swp_seq fun K14 hK14 => ?_
   refine swp_region ty_ok ?_
   try simp (maxSteps := 1000000)
   repeat' (first | apply And.intro | intro _)
   any_goals (first | (refine hK14 _ ?_; clear hK14) | (first | omega | (simp only [IntKind.wrap_i64] at *; omega) | (simp_all; done) | (simp_all; omega)))
   refine swp_ret ?_
   simp [fnPost, Try.results17, resP, tupOf]
  ·exact absurd hc13 (by simp)

theorem rhput_e (id p : Int) (es rs : List Int) (E : Int) (hE : ¬ E = 0) (ha : PCall Try.prog 51 [.agg [.int .i64 id, .int .i64 p, .ro (.ints .i64 es), .ro (.ints .i64 rs)]] (.int .i64 E)) (b vs : List Int) : PCall Try.prog 16 [.ro (.ints .u8 b), .agg [.int .i64 id, .int .i64 p, .ro (.ints .i64 es), .ro (.ints .i64 rs)], .ro (.ints .i64 vs)] (.tup [.ro (.ints .u8 []), .int .i64 E]) := by
 refine pcall_body ty_ok Try.func16 rfl (by rfl) (by simp) ?_
 rw [Try.ntmps16]
 refine swp_seq fun K1 hK1 => ?_
 refine swp_region ty_ok ?_
 try simp (maxSteps := 1000000)
 repeat' (first | apply And.intro | intro _)
 any_goals (first | (refine hK1 _ ?_; clear hK1) | (first | omega | (simp only [IntKind.wrap_i64] at *; omega) | (simp_all; done) | (simp_all; omega)))
 refine swp_seq fun K2 hK2 => ?_
 refine swp_region ty_ok ?_
 refine runs_cut 1 fun R3 hR3 => ?_
 try simp (maxSteps := 1000000) [List.take_succ_cons, List.take_zero, List.drop_succ_cons, List.drop_zero]
 repeat' (first | apply And.intro | intro _)
 any_goals (first | (refine hR3 _ ?_; clear hR3) | (first | omega | (simp only [IntKind.wrap_i64] at *; omega) | (simp_all; done) | (simp_all; omega)))
 refine runs_cut 1 fun R4 hR4 => ?_
 try simp (maxSteps := 1000000) [List.take_succ_cons, List.take_zero, List.drop_succ_cons, List.drop_zero]
 refine .inl ⟨_, ha, ?_⟩
 try simp (maxSteps := 1000000)
 repeat' (first | apply And.intro | intro _)
 any_goals (first | (refine hR4 _ ?_; clear hR4) | (first | omega | (simp only [IntKind.wrap_i64] at *; omega) | (simp_all; done) | (simp_all; omega)))
 try simp (maxSteps := 1000000) [List.take_succ_cons, List.take_zero, List.drop_succ_cons, List.drop_zero]
 repeat' (first | apply And.intro | intro _)
 any_goals (first | (refine hK2 _ ?_; clear hK2) | (first | omega | (simp only [IntKind.wrap_i64] at *; omega) | (simp_all; done) | (simp_all; omega)))
 refine swp_seq fun K5 hK5 => ?_
 refine swp_seq fun K6 hK6 => ?_
 refine swp_region ty_ok ?_
 try simp (maxSteps := 1000000)
 repeat' (first | apply And.intro | intro _)
 any_goals (first | (refine hK6 _ ?_; clear hK6) | (first | omega | (simp only [IntKind.wrap_i64] at *; omega) | (simp_all; done) | (simp_all; omega)))
 refine swp_if fun C7 hC7 => ?_
 try simp (maxSteps := 1000000)
 refine hC7 _ (fun hc7 => ?_) (fun hc7 => ?_)
 ·clear hC7
  try simp at hc7
  refine swp_seq fun K8 hK8 => ?_
  refine swp_region ty_ok ?_
  try simp (maxSteps := 1000000)
  repeat' (first | apply And.intro | intro _)
  any_goals (first | (refine hK8 _ ?_; clear hK8) | (first | omega | (simp only [IntKind.wrap_i64] at *; omega) | (simp_all; done) | (simp_all; omega)))
  refine swp_ret ?_
  simp [fnPost, Try.results16, resP, tupOf]
 ·exact absurd hc7 (by simpa using hE)

set_option maxHeartbeats 4000000 in
theorem rfit_ok (i : Nat) (h1 : 1 ≤ i) (h2 : i ≤ 11) (vs : List Int) (hv : vs.length ≤ 140737488355328) : PCall Try.prog 53 [.int .i64 (i : Nat), .ro (.ints .i64 vs)] (.bool (hFit i vs)) := by
 have hm := (hkF h1 h2).m
 have hng : IntKind.i64.wrap (-(hMost i)) = -(hMost i) := w64 (by omega)
 refine pcall_body ty_ok Try.func53 rfl (by rfl) (by simp) ?_
 rw [Try.ntmps53]
 refine swp_seq fun K1 hK1 => ?_
 refine swp_region ty_ok ?_
 try simp (maxSteps := 1000000)
 repeat' (first | apply And.intro | intro _)
 any_goals (first | (refine hK1 _ ?_; clear hK1) | (first | omega | (simp only [IntKind.wrap_i64] at *; omega) | (simp_all; done) | (simp_all; omega)))
 refine swp_seq fun K2 hK2 => ?_
 refine swp_seq fun K3 hK3 => ?_
 refine swp_region ty_ok ?_
 try simp (maxSteps := 1000000)
 repeat' (first | apply And.intro | intro _)
 any_goals (first | (refine hK3 _ ?_; clear hK3) | (first | omega | (simp only [IntKind.wrap_i64] at *; omega) | (simp_all; done) | (simp_all; omega)))
 refine swp_block ?_
 refine swp_loop 0 (fun m_ s_ => ∃ (k : Nat), (k ≤ vs.length) ∧ (hFit i (vs.take k) = true) ∧ s_ = ⟨[(0, .int .i64 (i : Nat)), (1, .ro (.ints .i64 vs)), (5, .int .i64 (k : Nat))], [], 0⟩ ∧ m_ = vs.length - k) _ ⟨[(0, .int .i64 (i : Nat)), (1, .ro (.ints .i64 vs)), (5, .int .i64 (0 : Nat))], [], 0⟩ ⟨by simp [getT, PV.lo, lo1], by simp [getH, Blk.lo, Cells.lo, lo1], rfl, by omega⟩ ⟨(0), by omega, by (simp [hFit]), rfl, rfl⟩ ?_
 rintro m_ s_ ⟨k, hL4_0, hL4_1, rfl, rfl⟩ KL4 hL4
 have hkw := wnext (i := k) (by omega)
 refine swp_seq fun K5 hK5 => ?_
 refine swp_seq fun K6 hK6 => ?_
 refine swp_region ty_ok ?_
 try simp (maxSteps := 1000000)
 repeat' (first | apply And.intro | intro _)
 any_goals (first | (refine hK6 _ ?_; clear hK6) | (first | omega | (simp only [IntKind.wrap_i64] at *; omega) | (simp_all; done) | (simp_all; omega)))
 refine swp_if fun C7 hC7 => ?_
 try simp (maxSteps := 1000000)
 refine hC7 _ (fun hc7 => ?_) (fun hc7 => ?_)
 ·clear hC7
  try simp at hc7
  refine swp_skip ?_
  try simp only [thn, inBlk]
  refine hK5 _ ?_; clear hK5
  refine swp_seq fun K8 hK8 => ?_
  refine swp_block ?_
  refine swp_seq fun K9 hK9 => ?_
  have hkl : k < vs.length := (by have h := hc7; omega)
  refine swp_draw ty_ok mixed (ms := [0, 0, 3, 7, 0, 16, 63, 127, 255, 255, 1023, 2047, 255, 4351, 12543, 32767, 65535]) (by kernel_rfl) ?_
  refine runD_cut 5 fun R10 hR10 => ?_
  try simp (maxSteps := 1000000) [hng, List.take_succ_cons, List.take_zero, List.drop_succ_cons, List.drop_zero]
  repeat' (first | apply And.intro | intro _)
  any_goals (first | (refine hR10 _ _ _ _ ?_; clear hR10) | (first | omega | (simp only [IntKind.wrap_i64] at *; omega) | (simp_all; done) | (simp_all; omega)))
  refine runD_cut 1 fun R11 hR11 => ?_
  try simp (maxSteps := 1000000) [hng, List.take_succ_cons, List.take_zero, List.drop_succ_cons, List.drop_zero]
  refine .inl ⟨_, rmost_ok i h1 h2, ?_⟩
  try simp (maxSteps := 1000000) [hng]
  repeat' (first | apply And.intro | intro _)
  any_goals (first | (refine hR11 _ _ _ _ ?_; clear hR11) | (first | omega | (simp only [IntKind.wrap_i64] at *; omega) | (simp_all; done) | (simp_all; omega)))
  refine runD_cut 7 fun R12 hR12 => ?_
  try simp (maxSteps := 1000000) [hng, List.take_succ_cons, List.take_zero, List.drop_succ_cons, List.drop_zero]
  repeat' (first | apply And.intro | intro _)
  any_goals (first | (refine hR12 _ _ _ _ ?_; clear hR12) | (first | omega | (simp only [IntKind.wrap_i64] at *; omega) | (simp_all; done) | (simp_all; omega)))
  refine runD_cut 1 fun R13 hR13 => ?_
  try simp (maxSteps := 1000000) [hng, List.take_succ_cons, List.take_zero, List.drop_succ_cons, List.drop_zero]
  first | refine ⟨_, fun hb => .inl ⟨rmost_ok i h1 h2, rfl⟩, ?_⟩ | refine ⟨_, .inl ⟨rmost_ok i h1 h2, rfl⟩, ?_⟩ | refine ⟨_, fun hb => .inl (rmost_ok i h1 h2), ?_⟩ | refine ⟨_, .inl (rmost_ok i h1 h2), ?_⟩ | refine ⟨_, by (intros; exact Or.inl (rmost_ok i h1 h2)), ?_⟩ | refine ⟨_, by (intros; exact Or.inl ⟨rmost_ok i h1 h2, rfl⟩), ?_⟩ | refine ⟨_, fun hb => .inl ⟨_, rmost_ok i h1 h2, by (try simp); exact ⟨rfl, rfl⟩⟩, ?_⟩
  repeat' (first | apply And.intro | intro _)
  any_goals (first | (refine hR13 _ _ _ _ ?_; clear hR13) | (first | omega | (simp only [IntKind.wrap_i64] at *; omega) | (simp_all; done) | (simp_all; omega)))
  try simp (maxSteps := 1000000) [hng, List.take_succ_cons, List.take_zero, List.drop_succ_cons, List.drop_zero]
  repeat' (first | apply And.intro | intro _)
  any_goals (first | kernel_rfl | (refine hK9 _ ?_; clear hK9) | (first | omega | (simp only [IntKind.wrap_i64] at *; omega) | (simp_all; done) | (simp_all; omega)))
  refine swp_if fun C15 hC15 => ?_
  try simp (maxSteps := 1000000) [hng]
  refine hC15 _ (fun hc15 => ?_) (fun hc15 => ?_)
  ·clear hC15
   try simp at hc15
   refine swp_seq fun K16 hK16 => ?_
   refine swp_region ty_ok ?_
   try simp (maxSteps := 1000000)
   repeat' (first | apply And.intro | intro _)
   any_goals (first | (refine hK16 _ ?_; clear hK16) | (first | omega | (simp only [IntKind.wrap_i64] at *; omega) | (simp_all; done) | (simp_all; omega)))
   refine swp_ret ?_
   simp [fnPost, Try.results53, resP, tupOf]
   exact fit_stop hkl (by have h := hc15; simpa using h)
  ·clear hC15
   try simp at hc15
   refine swp_skip ?_
   try simp only [thn, inBlk]
   refine hK8 _ ?_; clear hK8
   refine swp_region ty_ok ?_
   try simp (maxSteps := 1000000)
   repeat' apply And.intro
   any_goals (try omega)
   refine hL4 _ ⟨[(0, .int .i64 (i : Nat)), (1, .ro (.ints .i64 vs)), (5, .int .i64 ((k + 1) : Nat))], [], 0⟩ _ ?_ ⟨(k + 1), by omega, by exact fit_go hkl (by assumption) (by have h := hc15; simpa using h), rfl, rfl⟩ ⟨by simp [getT, PV.lo, lo1, hkw], by simp [getH, Blk.lo, Cells.lo, lo1], rfl, by omega⟩
   omega
 ·clear hC7
  try simp at hc7
  refine swp_exit ?_
  simp [thn, inBlk]
  refine hK2 _ ?_; clear hK2
  refine swp_seq fun K17 hK17 => ?_
  refine swp_region ty_ok ?_
  try simp (maxSteps := 1000000)
  repeat' (first | apply And.intro | intro _)
  any_goals (first | (refine hK17 _ ?_; clear hK17) | (first | omega | (simp only [IntKind.wrap_i64] at *; omega) | (simp_all; done) | (simp_all; omega)))
  refine swp_ret ?_
  simp [fnPost, Try.results53, resP, tupOf]
  have hke : k = vs.length := (by omega)
  have hf := (by assumption : hFit i (vs.take k) = true)
  rw [hke, List.take_length] at hf
  exact hf

theorem rfits_no (n : Int) (h : n < 1 ∨ 11 < n) (vs : List Int) : PCall Try.prog 22 [.int .i64 n, .ro (.ints .i64 vs)] (.tup [.bool false, .int .i64 2]) := by
 refine pcall_body ty_ok Try.func22 rfl (by rfl) (by simp) ?_
 rw [Try.ntmps22]
 refine swp_seq fun K1 hK1 => ?_
 refine swp_region ty_ok ?_
 try simp (maxSteps := 1000000)
 repeat' (first | apply And.intro | intro _)
 any_goals (first | (refine hK1 _ ?_; clear hK1) | (first | omega | (simp only [IntKind.wrap_i64] at *; omega) | (simp_all; done) | (simp_all; omega)))
 refine swp_seq fun K2 hK2 => ?_
 refine swp_seq fun K3 hK3 => ?_
 refine swp_region ty_ok ?_
 try simp (maxSteps := 1000000)
 repeat' (first | apply And.intro | intro _)
 any_goals (first | (refine hK3 _ ?_; clear hK3) | (first | omega | (simp only [IntKind.wrap_i64] at *; omega) | (simp_all; done) | (simp_all; omega)))
 refine swp_if fun C4 hC4 => ?_
 try simp (maxSteps := 1000000)
 refine hC4 _ (fun hc4 => ?_) (fun hc4 => ?_)
 ·clear hC4
  try simp at hc4
  refine swp_seq fun K5 hK5 => ?_
  refine swp_region ty_ok ?_
  try simp (maxSteps := 1000000)
  repeat' (first | apply And.intro | intro _)
  any_goals (first | (refine hK5 _ ?_; clear hK5) | (first | omega | (simp only [IntKind.wrap_i64] at *; omega) | (simp_all; done) | (simp_all; omega)))
  refine swp_ret ?_
  simp [fnPost, Try.results22, resP, tupOf]
 ·exfalso
  have h := hc4
  simp at h
  omega

theorem rfits_many (i : Nat) (h1 : 1 ≤ i) (h2 : i ≤ 11) (vs : List Int) (hd : ¬ vs.length = bDim i) : PCall Try.prog 22 [.int .i64 (i : Nat), .ro (.ints .i64 vs)] (.tup [.bool false, .int .i64 4]) := by
 refine pcall_body ty_ok Try.func22 rfl (by rfl) (by simp) ?_
 rw [Try.ntmps22]
 refine swp_seq fun K1 hK1 => ?_
 refine swp_region ty_ok ?_
 try simp (maxSteps := 1000000)
 repeat' (first | apply And.intro | intro _)
 any_goals (first | (refine hK1 _ ?_; clear hK1) | (first | omega | (simp only [IntKind.wrap_i64] at *; omega) | (simp_all; done) | (simp_all; omega)))
 refine swp_seq fun K2 hK2 => ?_
 refine swp_seq fun K3 hK3 => ?_
 refine swp_region ty_ok ?_
 try simp (maxSteps := 1000000)
 repeat' (first | apply And.intro | intro _)
 any_goals (first | (refine hK3 _ ?_; clear hK3) | (first | omega | (simp only [IntKind.wrap_i64] at *; omega) | (simp_all; done) | (simp_all; omega)))
 refine swp_if fun C4 hC4 => ?_
 try simp (maxSteps := 1000000)
 refine hC4 _ (fun hc4 => ?_) (fun hc4 => ?_)
 ·exfalso
  have h := hc4
  simp at h
  omega
 ·clear hC4
  try simp at hc4
  refine swp_skip ?_
  try simp only [thn, inBlk]
  refine hK2 _ ?_; clear hK2
  refine swp_seq fun K5 hK5 => ?_
  refine swp_seq fun K6 hK6 => ?_
  refine swp_region ty_ok ?_
  refine runs_cut 3 fun R7 hR7 => ?_
  try simp (maxSteps := 1000000) [List.take_succ_cons, List.take_zero, List.drop_succ_cons, List.drop_zero]
  repeat' (first | apply And.intro | intro _)
  any_goals (first | (refine hR7 _ ?_; clear hR7) | (first | omega | (simp only [IntKind.wrap_i64] at *; omega) | (simp_all; done) | (simp_all; omega)))
  refine runs_cut 1 fun R8 hR8 => ?_
  try simp (maxSteps := 1000000) [List.take_succ_cons, List.take_zero, List.drop_succ_cons, List.drop_zero]
  refine .inl ⟨_, dim_ok i h1 (by omega), ?_⟩
  try simp (maxSteps := 1000000)
  repeat' (first | apply And.intro | intro _)
  any_goals (first | (refine hR8 _ ?_; clear hR8) | (first | omega | (simp only [IntKind.wrap_i64] at *; omega) | (simp_all; done) | (simp_all; omega)))
  try simp (maxSteps := 1000000) [List.take_succ_cons, List.take_zero, List.drop_succ_cons, List.drop_zero]
  repeat' (first | apply And.intro | intro _)
  any_goals (first | (refine hK6 _ ?_; clear hK6) | (first | omega | (simp only [IntKind.wrap_i64] at *; omega) | (simp_all; done) | (simp_all; omega)))
  refine swp_if fun C9 hC9 => ?_
  try simp (maxSteps := 1000000)
  refine hC9 _ (fun hc9 => ?_) (fun hc9 => ?_)
  ·clear hC9
   try simp at hc9
   refine swp_seq fun K10 hK10 => ?_
   refine swp_region ty_ok ?_
   try simp (maxSteps := 1000000)
   repeat' (first | apply And.intro | intro _)
   any_goals (first | (refine hK10 _ ?_; clear hK10) | (first | omega | (simp only [IntKind.wrap_i64] at *; omega) | (simp_all; done) | (simp_all; omega)))
   refine swp_ret ?_
   simp [fnPost, Try.results22, resP, tupOf]
  ·exfalso
   have h := hc9
   simp at h
   omega

theorem rfits_ok (i : Nat) (h1 : 1 ≤ i) (h2 : i ≤ 11) (vs : List Int) (hd : vs.length = bDim i) : PCall Try.prog 22 [.int .i64 (i : Nat), .ro (.ints .i64 vs)] (.tup [.bool (hFit i vs), .int .i64 0]) := by
 have hFd := (hkF h1 h2).d
 have hd4 : 2 ≤ bDim i ∧ bDim i ≤ 4 := by rw [hFd]; split <;> omega
 refine pcall_body ty_ok Try.func22 rfl (by rfl) (by simp) ?_
 rw [Try.ntmps22]
 refine swp_seq fun K1 hK1 => ?_
 refine swp_region ty_ok ?_
 try simp (maxSteps := 1000000)
 repeat' (first | apply And.intro | intro _)
 any_goals (first | (refine hK1 _ ?_; clear hK1) | (first | omega | (simp only [IntKind.wrap_i64] at *; omega) | (simp_all; done) | (simp_all; omega)))
 refine swp_seq fun K2 hK2 => ?_
 refine swp_seq fun K3 hK3 => ?_
 refine swp_region ty_ok ?_
 try simp (maxSteps := 1000000)
 repeat' (first | apply And.intro | intro _)
 any_goals (first | (refine hK3 _ ?_; clear hK3) | (first | omega | (simp only [IntKind.wrap_i64] at *; omega) | (simp_all; done) | (simp_all; omega)))
 refine swp_if fun C4 hC4 => ?_
 try simp (maxSteps := 1000000)
 refine hC4 _ (fun hc4 => ?_) (fun hc4 => ?_)
 ·exfalso
  have h := hc4
  simp at h
  omega
 ·clear hC4
  try simp at hc4
  refine swp_skip ?_
  try simp only [thn, inBlk]
  refine hK2 _ ?_; clear hK2
  refine swp_seq fun K5 hK5 => ?_
  refine swp_seq fun K6 hK6 => ?_
  refine swp_region ty_ok ?_
  refine runs_cut 3 fun R7 hR7 => ?_
  try simp (maxSteps := 1000000) [List.take_succ_cons, List.take_zero, List.drop_succ_cons, List.drop_zero]
  repeat' (first | apply And.intro | intro _)
  any_goals (first | (refine hR7 _ ?_; clear hR7) | (first | omega | (simp only [IntKind.wrap_i64] at *; omega) | (simp_all; done) | (simp_all; omega)))
  refine runs_cut 1 fun R8 hR8 => ?_
  try simp (maxSteps := 1000000) [List.take_succ_cons, List.take_zero, List.drop_succ_cons, List.drop_zero]
  refine .inl ⟨_, dim_ok i h1 (by omega), ?_⟩
  try simp (maxSteps := 1000000)
  repeat' (first | apply And.intro | intro _)
  any_goals (first | (refine hR8 _ ?_; clear hR8) | (first | omega | (simp only [IntKind.wrap_i64] at *; omega) | (simp_all; done) | (simp_all; omega)))
  try simp (maxSteps := 1000000) [List.take_succ_cons, List.take_zero, List.drop_succ_cons, List.drop_zero]
  repeat' (first | apply And.intro | intro _)
  any_goals (first | (refine hK6 _ ?_; clear hK6) | (first | omega | (simp only [IntKind.wrap_i64] at *; omega) | (simp_all; done) | (simp_all; omega)))
  refine swp_if fun C9 hC9 => ?_
  try simp (maxSteps := 1000000)
  refine hC9 _ (fun hc9 => ?_) (fun hc9 => ?_)
  ·exfalso
   have h := hc9
   simp [hd] at h
  ·clear hC9
   try simp at hc9
   refine swp_skip ?_
   try simp only [thn, inBlk]
   refine hK5 _ ?_; clear hK5
   refine swp_seq fun K10 hK10 => ?_
   refine swp_region ty_ok ?_
   refine runs_cut 2 fun R11 hR11 => ?_
   try simp (maxSteps := 1000000) [List.take_succ_cons, List.take_zero, List.drop_succ_cons, List.drop_zero]
   repeat' (first | apply And.intro | intro _)
   any_goals (first | (refine hR11 _ ?_; clear hR11) | (first | omega | (simp only [IntKind.wrap_i64] at *; omega) | (simp_all; done) | (simp_all; omega)))
   refine runs_cut 1 fun R12 hR12 => ?_
   try simp (maxSteps := 1000000) [List.take_succ_cons, List.take_zero, List.drop_succ_cons, List.drop_zero]
   refine .inl ⟨_, rfit_ok i h1 h2 vs (by omega), ?_⟩
   try simp (maxSteps := 1000000)
   repeat' (first | apply And.intro | intro _)
   any_goals (first | (refine hR12 _ ?_; clear hR12) | (first | omega | (simp only [IntKind.wrap_i64] at *; omega) | (simp_all; done) | (simp_all; omega)))
   try simp (maxSteps := 1000000) [List.take_succ_cons, List.take_zero, List.drop_succ_cons, List.drop_zero]
   repeat' (first | apply And.intro | intro _)
   any_goals (first | (refine hK10 _ ?_; clear hK10) | (first | omega | (simp only [IntKind.wrap_i64] at *; omega) | (simp_all; done) | (simp_all; omega)))
   refine swp_ret ?_
   simp [fnPost, Try.results22, resP, tupOf]

set_option maxHeartbeats 4000000 in
theorem resca_ok (n m : Nat) (hm : m ≤ 8) (hn1 : 2 ^ (m + 4) ≤ n) (hn2 : n < 2 ^ (m + 4 + 1)) : PCall Try.prog 95 [.int .i64 (n : Nat)] (.ro (.ints .u8 (List.replicate m 1 ++ (0 :: bitsOf (n - 2 ^ (m + 4)) (m + 4))))) := by
 have hnb : n ≤ 8191 := by have : 2 ^ (m + 4 + 1) ≤ 2 ^ 13 := Nat.pow_le_pow_right (by omega) (by omega); omega
 refine pcall_body ty_ok Try.func95 rfl (by rfl) (by simp) ?_
 rw [Try.ntmps95]
 refine swp_seq fun K1 hK1 => ?_
 refine swp_region ty_ok ?_
 try simp (maxSteps := 1000000)
 repeat' (first | apply And.intro | intro _)
 any_goals (first | (refine hK1 _ ?_; clear hK1) | (first | omega | (simp only [IntKind.wrap_i64] at *; omega) | (simp_all; done) | (simp_all; omega)))
 refine swp_seq fun K2 hK2 => ?_
 refine swp_region ty_ok ?_
 try simp (maxSteps := 1000000)
 repeat' (first | apply And.intro | intro _)
 any_goals (first | (refine hK2 _ ?_; clear hK2) | (first | omega | (simp only [IntKind.wrap_i64] at *; omega) | (simp_all; done) | (simp_all; omega)))
 refine swp_seq fun K3 hK3 => ?_
 refine swp_block ?_
 refine swp_loop 0 (fun m_ s_ => ∃ (j : Nat), (j ≤ m) ∧ s_ = ⟨[(0, .int .i64 (n : Nat)), (3, .int .i64 (j : Nat))], [], 0⟩ ∧ m_ = m - j) _ ⟨[(0, .int .i64 (n : Nat)), (3, .int .i64 (0 : Nat))], [], 0⟩ ⟨by simp [getT, PV.lo, lo1], by simp [getH, Blk.lo, Cells.lo, lo1], rfl, by omega⟩ ⟨(0), by (first | omega | (simp only [IntKind.wrap_i64] at *; omega) | (simp_all; done) | (simp_all; omega)), rfl, rfl⟩ ?_
 rintro m_ s_ ⟨j, hL4_0, rfl, rfl⟩ KL4 hL4
 have hjw := wnext (i := j) (by omega)
 refine swp_seq fun K5 hK5 => ?_
 refine swp_seq fun K6 hK6 => ?_
 have hj5 : IntKind.i64.wrap ((j : Int) + 5) = (j : Int) + 5 := w64 (by omega)
 have htj : twoN (j + 5) = 2 ^ (j + 5) := rfl
 refine swp_region ty_ok ?_
 refine runs_cut 3 fun R7 hR7 => ?_
 try simp (maxSteps := 1000000) [hj5, List.take_succ_cons, List.take_zero, List.drop_succ_cons, List.drop_zero]
 repeat' (first | apply And.intro | intro _)
 any_goals (first | (refine hR7 _ ?_; clear hR7) | (first | omega | (simp only [IntKind.wrap_i64] at *; omega) | (simp_all; done) | (simp_all; omega)))
 refine runs_cut 1 fun R8 hR8 => ?_
 try simp (maxSteps := 1000000) [hj5, List.take_succ_cons, List.take_zero, List.drop_succ_cons, List.drop_zero]
 refine .inl ⟨_, two_ok (j + 5) (by omega), ?_⟩
 try simp (maxSteps := 1000000) [hj5]
 repeat' (first | apply And.intro | intro _)
 any_goals (first | (refine hR8 _ ?_; clear hR8) | (first | omega | (simp only [IntKind.wrap_i64] at *; omega) | (simp_all; done) | (simp_all; omega)))
 try simp (maxSteps := 1000000) [hj5, List.take_succ_cons, List.take_zero, List.drop_succ_cons, List.drop_zero]
 repeat' (first | apply And.intro | intro _)
 any_goals (first | (refine hK6 _ ?_; clear hK6) | (first | omega | (simp only [IntKind.wrap_i64] at *; omega) | (simp_all; done) | (simp_all; omega)))
 refine swp_if fun C9 hC9 => ?_
 try simp (maxSteps := 1000000) [hj5]
 refine hC9 _ (fun hc9 => ?_) (fun hc9 => ?_)
 ·clear hC9
  try simp at hc9
  refine swp_skip ?_
  try simp only [thn, inBlk]
  refine hK5 _ ?_; clear hK5
  refine swp_block ?_
  have hlt := e_more hm hn2 (by have h := hc9; first | exact h | exact_mod_cast h)
  refine swp_region ty_ok ?_
  try simp (maxSteps := 1000000)
  repeat' apply And.intro
  any_goals (try omega)
  refine hL4 _ ⟨[(0, .int .i64 (n : Nat)), (3, .int .i64 ((j + 1) : Nat))], [], 0⟩ _ ?_ ⟨(j + 1), by omega, rfl, rfl⟩ ⟨by simp [getT, PV.lo, lo1, hjw], by simp [getH, Blk.lo, Cells.lo, lo1], rfl, by omega⟩
  omega
 ·clear hC9
  try simp at hc9
  refine swp_exit ?_
  simp [thn, inBlk]
  refine hK3 _ ?_; clear hK3
  refine swp_seq fun K10 hK10 => ?_
  refine swp_region ty_ok ?_
  try simp (maxSteps := 1000000)
  repeat' (first | apply And.intro | intro _)
  any_goals (first | (refine hK10 _ ?_; clear hK10) | (first | omega | (simp only [IntKind.wrap_i64] at *; omega) | (simp_all; done) | (simp_all; omega)))
  refine swp_seq fun K11 hK11 => ?_
  refine swp_seq fun K12 hK12 => ?_
  refine swp_region ty_ok ?_
  try simp (maxSteps := 1000000)
  repeat' (first | apply And.intro | intro _)
  any_goals (first | (refine hK12 _ ?_; clear hK12) | (first | omega | (simp only [IntKind.wrap_i64] at *; omega) | (simp_all; done) | (simp_all; omega)))
  refine swp_block ?_
  have hje := (e_last hm hn1 (by assumption) (by have h := hc9; first | exact h | exact_mod_cast h)).symm
  subst hje
  refine swp_own 4 5 (by simp [getT]; rfl) rfl ?_
  refine swp_loop 1 (fun m_ s_ => ∃ (j : Nat), (j ≤ m) ∧ s_ = ⟨[(0, .int .i64 (n : Nat)), (3, .int .i64 (m : Nat)), (4, .sl 0 0 j j), (5, .int .i64 (j : Nat))], [(0, some ⟨.ints .u8 (List.replicate j 1), false, 5⟩)], 1⟩ ∧ m_ = m - j) _ ⟨[(0, .int .i64 (n : Nat)), (3, .int .i64 (m : Nat)), (4, .sl 0 0 0 0), (5, .int .i64 (0 : Nat))], [(0, some ⟨.ints .u8 (List.replicate 0 1), false, 5⟩)], 1⟩ ⟨by simp [getT, PV.lo, lo1], by simp [getH, Blk.lo, Cells.lo, lo1], rfl, by omega⟩ ⟨(0), by (first | omega | (simp only [IntKind.wrap_i64] at *; omega) | (simp_all; done) | (simp_all; omega)), rfl, rfl⟩ ?_
  rintro m_ s_ ⟨j, hL13_0, rfl, rfl⟩ KL13 hL13
  have hjw := wnext (i := j) (by omega)
  refine swp_seq fun K14 hK14 => ?_
  refine swp_seq fun K15 hK15 => ?_
  refine swp_region ty_ok ?_
  try simp (maxSteps := 1000000)
  repeat' (first | apply And.intro | intro _)
  any_goals (first | (refine hK15 _ ?_; clear hK15) | (first | omega | (simp only [IntKind.wrap_i64] at *; omega) | (simp_all; done) | (simp_all; omega)))
  refine swp_if fun C16 hC16 => ?_
  try simp (maxSteps := 1000000)
  refine hC16 _ (fun hc16 => ?_) (fun hc16 => ?_)
  ·clear hC16
   try simp at hc16
   refine swp_skip ?_
   try simp only [thn, inBlk]
   refine hK14 _ ?_; clear hK14
   refine swp_seq fun K17 hK17 => ?_
   refine swp_block ?_
   have hap : List.replicate j (1 : Int) ++ [1] = List.replicate (j + 1) 1 := (List.replicate_succ').symm
   refine swp_region ty_ok ?_
   refine runs_cut 1 fun R18 hR18 => ?_
   try simp (maxSteps := 1000000) [hap, List.take_succ_cons, List.take_zero, List.drop_succ_cons, List.drop_zero]
   repeat' (first | apply And.intro | intro _)
   any_goals (first | (refine hR18 _ ?_; clear hR18) | (first | omega | (simp only [IntKind.wrap_i64] at *; omega) | (simp_all; done) | (simp_all; omega)))
   refine runs_cut 1 fun R19 hR19 => ?_
   try simp (maxSteps := 1000000) [hap, List.take_succ_cons, List.take_zero, List.drop_succ_cons, List.drop_zero]
   repeat' (first | apply And.intro | intro _)
   any_goals (first | (refine Or.inl (hR19 _ ?_); clear hR19) | (first | omega | (simp only [IntKind.wrap_i64] at *; omega) | (simp_all; done) | (simp_all; omega)))
   try simp (maxSteps := 1000000) [hap, List.take_succ_cons, List.take_zero, List.drop_succ_cons, List.drop_zero]
   repeat' (first | apply And.intro | intro _)
   any_goals (first | (refine hK17 _ ?_; clear hK17) | (first | omega | (simp only [IntKind.wrap_i64] at *; omega) | (simp_all; done) | (simp_all; omega)))
   refine swp_region ty_ok ?_
   try simp (maxSteps := 1000000)
   repeat' apply And.intro
   any_goals (try omega)
   refine hL13 _ ⟨[(0, .int .i64 (n : Nat)), (3, .int .i64 (m : Nat)), (4, .sl 0 0 (j + 1) (j + 1)), (5, .int .i64 ((j + 1) : Nat))], [(0, some ⟨.ints .u8 (List.replicate (j + 1) 1), false, 5⟩)], 1⟩ _ ?_ ⟨(j + 1), by (first | omega | (simp only [IntKind.wrap_i64] at *; omega) | (simp_all; done) | (simp_all; omega)), rfl, rfl⟩ ⟨by simp [getT, PV.lo, lo1, hjw], by simp [getH, Blk.lo, Cells.lo, lo1, hap], rfl, by omega⟩
   omega
  ·clear hC16
   try simp at hc16
   refine swp_exit ?_
   simp [thn, inBlk]
   refine hK11 _ ?_; clear hK11
   refine swp_seq fun K20 hK20 => ?_
   refine swp_region ty_ok ?_
   refine runs_cut 1 fun R21 hR21 => ?_
   try simp (maxSteps := 1000000) [List.take_succ_cons, List.take_zero, List.drop_succ_cons, List.drop_zero]
   repeat' (first | apply And.intro | intro _)
   any_goals (first | (refine hR21 _ ?_; clear hR21) | (first | omega | (simp only [IntKind.wrap_i64] at *; omega) | (simp_all; done) | (simp_all; omega)))
   refine runs_cut 1 fun R22 hR22 => ?_
   try simp (maxSteps := 1000000) [List.take_succ_cons, List.take_zero, List.drop_succ_cons, List.drop_zero]
   repeat' (first | apply And.intro | intro _)
   any_goals (first | (refine Or.inl (hR22 _ ?_); clear hR22) | (first | omega | (simp only [IntKind.wrap_i64] at *; omega) | (simp_all; done) | (simp_all; omega)))
   try simp (maxSteps := 1000000) [List.take_succ_cons, List.take_zero, List.drop_succ_cons, List.drop_zero]
   repeat' (first | apply And.intro | intro _)
   any_goals (first | (refine hK20 _ ?_; clear hK20) | (first | omega | (simp only [IntKind.wrap_i64] at *; omega) | (simp_all; done) | (simp_all; omega)))
   refine swp_seq fun K23 hK23 => ?_
   have hk4 : IntKind.i64.wrap ((m : Int) + 4) = (m : Int) + 4 := w64 (by omega)
   have htm : twoN (m + 4) = 2 ^ (m + 4) := rfl
   have hsb : IntKind.i64.wrap ((n : Int) - (twoN (m + 4) : Nat)) = ((n - 2 ^ (m + 4) : Nat) : Int) := by rw [htm, w64 (by omega)]; omega
   have hbl := bitsOf_len (n - 2 ^ (m + 4)) (m + 4)
   refine swp_region ty_ok ?_
   refine runs_cut 4 fun R24 hR24 => ?_
   try simp (maxSteps := 1000000) [hk4, hsb, List.take_succ_cons, List.take_zero, List.drop_succ_cons, List.drop_zero]
   repeat' (first | apply And.intro | intro _)
   any_goals (first | (refine hR24 _ ?_; clear hR24) | (first | omega | (simp only [IntKind.wrap_i64] at *; omega) | (simp_all; done) | (simp_all; omega)))
   refine runs_cut 1 fun R25 hR25 => ?_
   try simp (maxSteps := 1000000) [hk4, hsb, List.take_succ_cons, List.take_zero, List.drop_succ_cons, List.drop_zero]
   refine .inl ⟨_, two_ok (m + 4) (by omega), ?_⟩
   try simp (maxSteps := 1000000) [hk4, hsb]
   repeat' (first | apply And.intro | intro _)
   any_goals (first | (refine hR25 _ ?_; clear hR25) | (first | omega | (simp only [IntKind.wrap_i64] at *; omega) | (simp_all; done) | (simp_all; omega)))
   refine runs_cut 3 fun R26 hR26 => ?_
   try simp (maxSteps := 1000000) [hk4, hsb, List.take_succ_cons, List.take_zero, List.drop_succ_cons, List.drop_zero]
   repeat' (first | apply And.intro | intro _)
   any_goals (first | (refine hR26 _ ?_; clear hR26) | (first | omega | (simp only [IntKind.wrap_i64] at *; omega) | (simp_all; done) | (simp_all; omega)))
   refine runs_cut 1 fun R27 hR27 => ?_
   try simp (maxSteps := 1000000) [hk4, hsb, List.take_succ_cons, List.take_zero, List.drop_succ_cons, List.drop_zero]
   refine .inl ⟨_, (show PCall Try.prog 109 [.int .i64 ((n - 2 ^ (m + 4) : Nat) : Int), .int .i64 ((m : Int) + 4)] (.ro (.ints .u8 (bitsOf (n - 2 ^ (m + 4)) (m + 4)))) from rbits_ok (n - 2 ^ (m + 4)) (m + 4) (by omega) (by omega)), ?_⟩
   try simp (maxSteps := 1000000) [hk4, hsb]
   repeat' (first | apply And.intro | intro _)
   any_goals (first | (refine hR27 _ ?_; clear hR27) | (first | omega | (simp only [IntKind.wrap_i64] at *; omega) | (simp_all; done) | (simp_all; omega)))
   try simp (maxSteps := 1000000) [hk4, hsb, List.take_succ_cons, List.take_zero, List.drop_succ_cons, List.drop_zero]
   repeat' (first | apply And.intro | intro _)
   any_goals (first | (refine hK23 _ ?_; clear hK23) | (first | omega | (simp only [IntKind.wrap_i64] at *; omega) | (simp_all; done) | (simp_all; omega)))
   refine swp_ret ?_
   simp [fnPost, Try.results95, resP, tupOf]
   exact ⟨by omega, by omega⟩

theorem rkbits_h (n : Nat) (p r : Nat) (hp : p ≤ 2) (hr : r < 289) : HCall Try.prog 97 [.int .i64 (r : Nat), .int .i64 (p : Nat)] [] n (.sl n 0 (codeL p r).length (codeL p r).length) [(n, some ⟨.ints .u8 (codeL p r), false, 5⟩)] := by
 have hf := codeF (p := p) (r := r) hp hr
 have hfm := hf.m
 have hfn := hf.n
 have hq0 : r / 2 ^ p ≤ r := Nat.div_le_self _ _
 have hq1 : r % 2 ^ p ≤ r := Nat.mod_le _ _
 have htd := tdiv_nat (a := r) (b := 2 ^ p) (r := r / 2 ^ p) rfl
 have htm := tmod_nat (a := r) (b := 2 ^ p) (r := r % 2 ^ p) rfl
 have htw : twoN p = 2 ^ p := rfl
 have htn : ¬ 2 ^ p = 0 := Nat.ne_of_gt (Nat.pow_pos (by omega))
 have hcn0 : cN p r = r / 2 ^ p + 1 := rfl
 have hcd : codeL p r = List.replicate (cM p r - 1) 0 ++ bitsOf (cN p r) (cM p r) ++ bitsOf (r % 2 ^ p) p := rfl
 obtain ⟨d, hd⟩ : ∃ d, r / 2 ^ p = d := ⟨_, rfl⟩
 obtain ⟨m, hm⟩ : ∃ m, r % 2 ^ p = m := ⟨_, rfl⟩
 obtain ⟨t, ht⟩ : ∃ t, 2 ^ p = t := ⟨_, rfl⟩
 rw [hd] at hq0 htd hcn0
 rw [hm] at hq1 htm hcd
 rw [ht] at htd htm htw htn
 have hwd : IntKind.i64.wrap (d : Int) = d := w64 (by omega)
 have hcn : IntKind.i64.wrap ((d : Nat) + 1 : Int) = (cN p r : Nat) := by rw [w64 (by omega)]; omega
 have hM : IntKind.i64.wrap (((cM p r : Nat) : Int) - 1) = ((cM p r - 1 : Nat) : Int) := by rw [w64 (by omega)]; omega
 have hbl := bitsOf_len (cN p r) (cM p r)
 have hbl2 := bitsOf_len m p
 refine hcall_body ty_ok Try.func97 rfl (by rfl) (by simp) ?_
 rw [Try.ntmps97]
 refine swp_seq fun K1 hK1 => ?_
 refine swp_region ty_ok ?_
 try simp (maxSteps := 1000000)
 repeat' (first | apply And.intro | intro _)
 any_goals (first | (refine hK1 _ ?_; clear hK1) | (first | omega | (simp only [IntKind.wrap_i64] at *; omega) | (simp_all; done) | (simp_all; omega)))
 refine swp_seq fun K2 hK2 => ?_
 refine swp_region ty_ok ?_
 refine runs_cut 1 fun R3 hR3 => ?_
 try simp (maxSteps := 1000000) [htw, List.take_succ_cons, List.take_zero, List.drop_succ_cons, List.drop_zero]
 repeat' (first | apply And.intro | intro _)
 any_goals (first | (refine hR3 _ ?_; clear hR3) | (first | omega | (simp only [IntKind.wrap_i64] at *; omega) | (simp_all; done) | (simp_all; omega)))
 refine runs_cut 1 fun R4 hR4 => ?_
 try simp (maxSteps := 1000000) [htw, List.take_succ_cons, List.take_zero, List.drop_succ_cons, List.drop_zero]
 refine .inl ⟨_, two_ok p (by omega), ?_⟩
 try simp (maxSteps := 1000000) [htw]
 repeat' (first | apply And.intro | intro _)
 any_goals (first | (refine hR4 _ ?_; clear hR4) | (first | omega | (simp only [IntKind.wrap_i64] at *; omega) | (simp_all; done) | (simp_all; omega)))
 try simp (maxSteps := 1000000) [htw, List.take_succ_cons, List.take_zero, List.drop_succ_cons, List.drop_zero]
 repeat' (first | apply And.intro | intro _)
 any_goals (first | (refine hK2 _ ?_; clear hK2) | (first | omega | (simp only [IntKind.wrap_i64] at *; omega) | (simp_all; done) | (simp_all; omega)))
 refine swp_seq fun K5 hK5 => ?_
 refine swp_region ty_ok ?_
 try simp (maxSteps := 1000000) [htd, hwd, hcn, htn]
 repeat' (first | apply And.intro | intro _)
 any_goals (first | (refine hK5 _ ?_; clear hK5) | (first | omega | (simp only [IntKind.wrap_i64] at *; omega) | (simp_all; done) | (simp_all; omega)))
 refine swp_seq fun K6 hK6 => ?_
 refine swp_region ty_ok ?_
 refine runs_cut 1 fun R7 hR7 => ?_
 try simp (maxSteps := 1000000) [List.take_succ_cons, List.take_zero, List.drop_succ_cons, List.drop_zero]
 repeat' (first | apply And.intro | intro _)
 any_goals (first | (refine hR7 _ ?_; clear hR7) | (first | omega | (simp only [IntKind.wrap_i64] at *; omega) | (simp_all; done) | (simp_all; omega)))
 refine runs_cut 1 fun R8 hR8 => ?_
 try simp (maxSteps := 1000000) [List.take_succ_cons, List.take_zero, List.drop_succ_cons, List.drop_zero]
 refine .inl ⟨_, (show PCall Try.prog 119 [.int .i64 (cN p r : Nat)] (.int .i64 (cM p r : Nat)) from digits_ok (cN p r) (by omega) (by omega)), ?_⟩
 try simp (maxSteps := 1000000)
 repeat' (first | apply And.intro | intro _)
 any_goals (first | (refine hR8 _ ?_; clear hR8) | (first | omega | (simp only [IntKind.wrap_i64] at *; omega) | (simp_all; done) | (simp_all; omega)))
 try simp (maxSteps := 1000000) [List.take_succ_cons, List.take_zero, List.drop_succ_cons, List.drop_zero]
 repeat' (first | apply And.intro | intro _)
 any_goals (first | (refine hK6 _ ?_; clear hK6) | (first | omega | (simp only [IntKind.wrap_i64] at *; omega) | (simp_all; done) | (simp_all; omega)))
 refine swp_seq fun K9 hK9 => ?_
 refine swp_region ty_ok ?_
 refine runs_cut 2 fun R10 hR10 => ?_
 try simp (maxSteps := 1000000) [hM, List.take_succ_cons, List.take_zero, List.drop_succ_cons, List.drop_zero]
 repeat' (first | apply And.intro | intro _)
 any_goals (first | (refine hR10 _ ?_; clear hR10) | (first | omega | (simp only [IntKind.wrap_i64] at *; omega) | (simp_all; done) | (simp_all; omega)))
 refine runs_cut 1 fun R11 hR11 => ?_
 try simp (maxSteps := 1000000) [hM, List.take_succ_cons, List.take_zero, List.drop_succ_cons, List.drop_zero]
 repeat' (first | apply And.intro | intro _)
 any_goals (first | (refine Or.inr (hR11 _ ?_); clear hR11) | (first | omega | (simp only [IntKind.wrap_i64] at *; omega) | (simp_all; done) | (simp_all; omega)))
 try simp (maxSteps := 1000000) [hM, List.take_succ_cons, List.take_zero, List.drop_succ_cons, List.drop_zero]
 repeat' (first | apply And.intro | intro _)
 any_goals (first | (refine hK9 _ ?_; clear hK9) | (first | omega | (simp only [IntKind.wrap_i64] at *; omega) | (simp_all; done) | (simp_all; omega)))
 refine swp_seq fun K12 hK12 => ?_
 refine swp_region ty_ok ?_
 refine runs_cut 3 fun R13 hR13 => ?_
 try simp (maxSteps := 1000000) [List.take_succ_cons, List.take_zero, List.drop_succ_cons, List.drop_zero]
 repeat' (first | apply And.intro | intro _)
 any_goals (first | (refine hR13 _ ?_; clear hR13) | (first | omega | (simp only [IntKind.wrap_i64] at *; omega) | (simp_all; done) | (simp_all; omega)))
 refine runs_cut 1 fun R14 hR14 => ?_
 try simp (maxSteps := 1000000) [List.take_succ_cons, List.take_zero, List.drop_succ_cons, List.drop_zero]
 refine .inl ⟨_, rbits_ok (cN p r) (cM p r) (by omega) (by omega), ?_⟩
 try simp (maxSteps := 1000000)
 repeat' (first | apply And.intro | intro _)
 any_goals (first | (refine hR14 _ ?_; clear hR14) | (first | omega | (simp only [IntKind.wrap_i64] at *; omega) | (simp_all; done) | (simp_all; omega)))
 try simp (maxSteps := 1000000) [List.take_succ_cons, List.take_zero, List.drop_succ_cons, List.drop_zero]
 repeat' (first | apply And.intro | intro _)
 any_goals (first | (refine hK12 _ ?_; clear hK12) | (first | omega | (simp only [IntKind.wrap_i64] at *; omega) | (simp_all; done) | (simp_all; omega)))
 refine swp_seq fun K15 hK15 => ?_
 refine swp_region ty_ok ?_
 refine runs_cut 5 fun R16 hR16 => ?_
 try simp (maxSteps := 1000000) [htm, htn, List.take_succ_cons, List.take_zero, List.drop_succ_cons, List.drop_zero]
 repeat' (first | apply And.intro | intro _)
 any_goals (first | (refine hR16 _ ?_; clear hR16) | (first | omega | (simp only [IntKind.wrap_i64] at *; omega) | (simp_all; done) | (simp_all; omega)))
 refine runs_cut 1 fun R17 hR17 => ?_
 try simp (maxSteps := 1000000) [htm, htn, List.take_succ_cons, List.take_zero, List.drop_succ_cons, List.drop_zero]
 refine .inl ⟨_, rbits_ok m p (by omega) (by omega), ?_⟩
 try simp (maxSteps := 1000000) [htm, htn]
 repeat' (first | apply And.intro | intro _)
 any_goals (first | (refine hR17 _ ?_; clear hR17) | (first | omega | (simp only [IntKind.wrap_i64] at *; omega) | (simp_all; done) | (simp_all; omega)))
 try simp (maxSteps := 1000000) [htm, htn, List.take_succ_cons, List.take_zero, List.drop_succ_cons, List.drop_zero]
 repeat' (first | apply And.intro | intro _)
 any_goals (first | (refine hK15 _ ?_; clear hK15) | (first | omega | (simp only [IntKind.wrap_i64] at *; omega) | (simp_all; done) | (simp_all; omega)))
 refine swp_ret ?_
 simp [fnPostH, PV.inR, inR1, PV.inL, inL1, Blk.inL, Cells.inL, put_at, Try.results97, resP, tupOf]
 rw [hcd]
 simp [Nat.add_assoc]

set_option maxHeartbeats 4000000 in
theorem rhbits_s (i : Nat) (h1 : 1 ≤ i) (h2 : i ≤ 11) (vs : List Int) (hd : vs.length = bDim i) (hf : hFit i vs = true) (hs : hSig i = true) : PCall Try.prog 54 [bookV i, .ro (.ints .i64 vs)] (.ro (.ints .u8 (huffL i vs))) := by
 have hF := hkF h1 h2
 have hFd := hF.d
 have hvl : 2 ≤ vs.length ∧ vs.length ≤ 4 := by rw [hd, hFd]; split <;> omega
 have hE := bke h1 (by omega : i ≤ 12)
 have hB := bk_ok h1 (by omega : i ≤ 12)
 have hplain := hB.plain
 have hmany := hB.many
 obtain ⟨k1, k2, k3⟩ := sig_ent h1 h2 hd hf hs
 have hent := rent_ok i h1 (by omega) vs
 rw [k1, k2] at hent
 have hrk := hE.ra k3
 have hcl := code_len h1 (by omega : i ≤ 12) k3
 have hL : huffL i vs = codeL (bPlain i) (rkE i (entN i vs)) := by unfold huffL; rw [if_pos hs]
 refine pcall_body ty_ok Try.func54 rfl (by rfl) (by simp) ?_
 rw [Try.ntmps54]
 refine swp_seq fun K1 hK1 => ?_
 refine swp_region ty_ok ?_
 try simp (maxSteps := 1000000) [bookV]
 repeat' (first | apply And.intro | intro _)
 any_goals (first | (refine hK1 _ ?_; clear hK1) | (first | omega | (simp only [IntKind.wrap_i64] at *; omega) | (simp_all; done) | (simp_all; omega)))
 refine swp_seq fun K2 hK2 => ?_
 refine swp_region ty_ok ?_
 try simp (maxSteps := 1000000) [bookV]
 repeat' (first | apply And.intro | intro _)
 any_goals (first | (refine hK2 _ ?_; clear hK2) | (first | omega | (simp only [IntKind.wrap_i64] at *; omega) | (simp_all; done) | (simp_all; omega)))
 refine swp_seq fun K3 hK3 => ?_
 refine swp_region ty_ok ?_
 try simp (maxSteps := 1000000) [bookV]
 repeat' (first | apply And.intro | intro _)
 any_goals (first | (refine hK3 _ ?_; clear hK3) | (first | omega | (simp only [IntKind.wrap_i64] at *; omega) | (simp_all; done) | (simp_all; omega)))
 refine swp_seq fun K4 hK4 => ?_
 refine swp_region ty_ok ?_
 try simp (maxSteps := 1000000) [bookV]
 repeat' (first | apply And.intro | intro _)
 any_goals (first | (refine hK4 _ ?_; clear hK4) | (first | omega | (simp only [IntKind.wrap_i64] at *; omega) | (simp_all; done) | (simp_all; omega)))
 refine swp_seq fun K5 hK5 => ?_
 refine swp_seq fun K6 hK6 => ?_
 refine swp_region ty_ok ?_
 try simp (maxSteps := 1000000) [bookV]
 repeat' (first | apply And.intro | intro _)
 any_goals (first | (refine hK6 _ ?_; clear hK6) | (first | omega | (simp only [IntKind.wrap_i64] at *; omega) | (simp_all; done) | (simp_all; omega)))
 refine swp_block ?_
 refine swp_own 5 3 (by simp [getT]; rfl) rfl ?_
 refine swp_loop 2 (fun m_ s_ => ∃ (k : Nat), (k ≤ vs.length) ∧ s_ = ⟨[(1, .ro (.ints .i64 vs)), (2, .ptr 0 0 0 1), (5, .sl 1 0 k k), (6, .nil (.ints .u8 [])), (7, .nil (.ints .u8 [])), (8, .int .i64 (k : Nat))], [(0, some ⟨.rows 4 [[.int .i64 (i : Nat), .int .i64 (bPlain i : Nat), .ro (.ints .i64 (bE i)), .ro (.ints .i64 (bR i))]], true, 25⟩), (1, some ⟨.ints .i64 (vs.take k), false, 3⟩)], 2⟩ ∧ m_ = vs.length - k) _ ⟨[(1, .ro (.ints .i64 vs)), (2, .ptr 0 0 0 1), (5, .sl 1 0 0 0), (6, .nil (.ints .u8 [])), (7, .nil (.ints .u8 [])), (8, .int .i64 (0 : Nat))], [(0, some ⟨.rows 4 [[.int .i64 (i : Nat), .int .i64 (bPlain i : Nat), .ro (.ints .i64 (bE i)), .ro (.ints .i64 (bR i))]], true, 25⟩), (1, some ⟨.ints .i64 (vs.take 0), false, 3⟩)], 2⟩ ⟨by simp [getT, PV.lo, lo1], by simp [getH, Blk.lo, Cells.lo, lo1], rfl, by omega⟩ ⟨(0), by (first | omega | (simp only [IntKind.wrap_i64] at *; omega) | (simp_all; done) | (simp_all; omega)), rfl, rfl⟩ ?_
 rintro m_ s_ ⟨k, hL7_0, rfl, rfl⟩ KL7 hL7
 have hkw := wnext (i := k) (by omega)
 refine swp_seq fun K8 hK8 => ?_
 refine swp_seq fun K9 hK9 => ?_
 refine swp_region ty_ok ?_
 try simp (maxSteps := 1000000) [bookV]
 repeat' (first | apply And.intro | intro _)
 any_goals (first | (refine hK9 _ ?_; clear hK9) | (first | omega | (simp only [IntKind.wrap_i64] at *; omega) | (simp_all; done) | (simp_all; omega)))
 refine swp_if fun C10 hC10 => ?_
 try simp (maxSteps := 1000000) [bookV]
 refine hC10 _ (fun hc10 => ?_) (fun hc10 => ?_)
 ·clear hC10
  try simp at hc10
  refine swp_skip ?_
  try simp only [thn, inBlk]
  refine hK8 _ ?_; clear hK8
  refine swp_seq fun K11 hK11 => ?_
  refine swp_block ?_
  refine swp_seq fun K12 hK12 => ?_
  have hkl : k < vs.length := (by have h := hc10; omega)
  have happ := take_snocI hkl
  have htl : (vs.take k).length = k := by rw [List.length_take]; omega
  refine swp_region ty_ok ?_
  try simp (maxSteps := 1000000) [bookV]
  repeat' (first | apply And.intro | intro _)
  any_goals (first | (refine hK12 _ ?_; clear hK12) | (first | omega | (simp only [IntKind.wrap_i64] at *; omega) | (simp_all; done) | (simp_all; omega)))
  refine swp_seq fun K13 hK13 => ?_
  refine swp_seq fun K14 hK14 => ?_
  refine swp_region ty_ok ?_
  refine runs_cut 2 fun R15 hR15 => ?_
  try simp (maxSteps := 1000000) [bookV, List.take_succ_cons, List.take_zero, List.drop_succ_cons, List.drop_zero]
  repeat' (first | apply And.intro | intro _)
  any_goals (first | (refine hR15 _ ?_; clear hR15) | (first | omega | (simp only [IntKind.wrap_i64] at *; omega) | (simp_all; done) | (simp_all; omega)))
  try simp (maxSteps := 1000000) [bookV, List.take_succ_cons, List.take_zero, List.drop_succ_cons, List.drop_zero]
  refine .inl ⟨_, rsig_ok i h1 h2, ?_⟩
  try simp (maxSteps := 1000000) [bookV]
  repeat' (first | apply And.intro | intro _)
  any_goals (first | (refine hK14 _ ?_; clear hK14) | (first | omega | (simp only [IntKind.wrap_i64] at *; omega) | (simp_all; done) | (simp_all; omega)))
  refine swp_if fun C16 hC16 => ?_
  try simp (maxSteps := 1000000) [bookV]
  refine hC16 _ (fun hc16 => ?_) (fun hc16 => ?_)
  ·clear hC16
   try simp at hc16
   refine swp_seq fun K17 hK17 => ?_
   refine swp_region ty_ok ?_
   refine runs_cut 2 fun R18 hR18 => ?_
   try simp (maxSteps := 1000000) [bookV, happ, List.take_succ_cons, List.take_zero, List.drop_succ_cons, List.drop_zero]
   repeat' (first | apply And.intro | intro _)
   any_goals (first | (refine hR18 _ ?_; clear hR18) | (first | omega | (simp only [IntKind.wrap_i64] at *; omega) | (simp_all; done) | (simp_all; omega)))
   refine runs_cut 1 fun R19 hR19 => ?_
   try simp (maxSteps := 1000000) [bookV, happ, List.take_succ_cons, List.take_zero, List.drop_succ_cons, List.drop_zero]
   repeat' (first | apply And.intro | intro _)
   any_goals (first | (refine Or.inl (hR19 _ ?_); clear hR19) | (first | omega | (simp only [IntKind.wrap_i64] at *; omega) | (simp_all; done) | (simp_all; omega)))
   try simp (maxSteps := 1000000) [bookV, happ, List.take_succ_cons, List.take_zero, List.drop_succ_cons, List.drop_zero]
   repeat' (first | apply And.intro | intro _)
   any_goals (first | (refine hK17 _ ?_; clear hK17) | (first | omega | (simp only [IntKind.wrap_i64] at *; omega) | (simp_all; done) | (simp_all; omega)))
   refine swp_exit ?_
   simp [thn, inBlk]
   refine hK11 _ ?_; clear hK11
   refine swp_region ty_ok ?_
   try simp (maxSteps := 1000000) [bookV]
   repeat' apply And.intro
   any_goals (try omega)
   refine hL7 _ ⟨[(1, .ro (.ints .i64 vs)), (2, .ptr 0 0 0 1), (5, .sl 1 0 (k + 1) (k + 1)), (6, .nil (.ints .u8 [])), (7, .nil (.ints .u8 [])), (8, .int .i64 ((k + 1) : Nat))], [(0, some ⟨.rows 4 [[.int .i64 (i : Nat), .int .i64 (bPlain i : Nat), .ro (.ints .i64 (bE i)), .ro (.ints .i64 (bR i))]], true, 25⟩), (1, some ⟨.ints .i64 (vs.take (k + 1)), false, 3⟩)], 2⟩ _ ?_ ⟨(k + 1), by (first | omega | (simp only [IntKind.wrap_i64] at *; omega) | (simp_all; done) | (simp_all; omega)), rfl, rfl⟩ ⟨by simp [getT, PV.lo, lo1, hkw], by simp [getH, Blk.lo, Cells.lo, lo1, happ], rfl, by omega⟩
   omega
  ·exact absurd hc16 (by simp [hs])
 ·clear hC10
  try simp at hc10
  refine swp_exit ?_
  simp [thn, inBlk]
  refine hK5 _ ?_; clear hK5
  refine swp_seq fun K20 hK20 => ?_
  have hke : k = vs.length := (by omega)
  subst hke
  refine swp_region ty_ok ?_
  refine runs_cut 3 fun R21 hR21 => ?_
  try simp (maxSteps := 1000000) [bookV, List.take_length, List.take_succ_cons, List.take_zero, List.drop_succ_cons, List.drop_zero]
  repeat' (first | apply And.intro | intro _)
  any_goals (first | (refine hR21 _ ?_; clear hR21) | (first | omega | (simp only [IntKind.wrap_i64] at *; omega) | (simp_all; done) | (simp_all; omega)))
  refine runs_cut 1 fun R22 hR22 => ?_
  try simp (maxSteps := 1000000) [bookV, List.take_length, List.take_succ_cons, List.take_zero, List.drop_succ_cons, List.drop_zero]
  refine .inl ⟨_, hent, ?_⟩
  try simp (maxSteps := 1000000) [bookV, List.take_length]
  repeat' (first | apply And.intro | intro _)
  any_goals (first | (refine hR22 _ ?_; clear hR22) | (first | omega | (simp only [IntKind.wrap_i64] at *; omega) | (simp_all; done) | (simp_all; omega)))
  try simp (maxSteps := 1000000) [bookV, List.take_length, List.take_succ_cons, List.take_zero, List.drop_succ_cons, List.drop_zero]
  repeat' (first | apply And.intro | intro _)
  any_goals (first | (refine hK20 _ ?_; clear hK20) | (first | omega | (simp only [IntKind.wrap_i64] at *; omega) | (simp_all; done) | (simp_all; omega)))
  refine swp_seq fun K23 hK23 => ?_
  have hrk1 := hrk.1
  have hrl := hE.rlen
  refine swp_draw ty_ok mixed (ms := [0, 1, 0, 7, 15, 0, 32, 127, 255]) (by kernel_rfl) ?_
  refine runD_cut 7 fun R24 hR24 => ?_
  try simp (maxSteps := 1000000) [bookV, hrk1, hrl, List.take_succ_cons, List.take_zero, List.drop_succ_cons, List.drop_zero]
  repeat' (first | apply And.intro | intro _)
  any_goals (first | (refine hR24 _ _ _ _ ?_; clear hR24) | (first | omega | (simp only [IntKind.wrap_i64] at *; omega) | (simp_all; done) | (simp_all; omega)))
  refine runD_cut 1 fun R25 hR25 => ?_
  try simp (maxSteps := 1000000) [bookV, hrk1, hrl, List.take_succ_cons, List.take_zero, List.drop_succ_cons, List.drop_zero]
  refine .inr (hcl_mk (rkbits_h 58 (bPlain i) (rkE i (entN i vs)) hplain (by have := hrk.2; unfold rkE; omega)) (by simp [PV.ids, id1, getH, Blk.inL, Cells.inL, inL1]) (by simp [PV.inL, inL1]) (by simp) ?_)
  try simp (maxSteps := 1000000) [bookV, hrk1, hrl]
  repeat' (first | apply And.intro | intro _)
  any_goals (first | (refine hR25 _ _ _ _ ?_; clear hR25) | (first | omega | (simp only [IntKind.wrap_i64] at *; omega) | (simp_all; done) | (simp_all; omega)))
  try simp (maxSteps := 1000000) [bookV, hrk1, hrl, List.take_succ_cons, List.take_zero, List.drop_succ_cons, List.drop_zero]
  repeat' (first | apply And.intro | intro _)
  any_goals (first | kernel_rfl | (refine hK23 _ ?_; clear hK23) | (first | omega | (simp only [IntKind.wrap_i64] at *; omega) | (simp_all; done) | (simp_all; omega)))
  refine swp_seq fun K27 hK27 => ?_
  refine swp_region ty_ok ?_
  try simp (maxSteps := 1000000) [bookV]
  repeat' (first | apply And.intro | intro _)
  any_goals (first | (refine hK27 _ ?_; clear hK27) | (first | omega | (simp only [IntKind.wrap_i64] at *; omega) | (simp_all; done) | (simp_all; omega)))
  refine swp_seq fun K28 hK28 => ?_
  refine swp_region ty_ok ?_
  try simp (maxSteps := 1000000) [bookV]
  repeat' (first | apply And.intro | intro _)
  any_goals (first | (refine hK28 _ ?_; clear hK28) | (first | omega | (simp only [IntKind.wrap_i64] at *; omega) | (simp_all; done) | (simp_all; omega)))
  refine swp_ret ?_
  simp [fnPost, Try.results54, resP, tupOf]
  exact hL

set_option maxHeartbeats 8000000 in
theorem rhbits_u (i : Nat) (h1 : 1 ≤ i) (h2 : i ≤ 11) (vs : List Int) (hd : vs.length = bDim i) (hf : hFit i vs = true) (hs : hSig i = false) : PCall Try.prog 54 [bookV i, .ro (.ints .i64 vs)] (.ro (.ints .u8 (huffL i vs))) := by
 have hF := hkF h1 h2
 have hFd := hF.d
 have hvl : 2 ≤ vs.length ∧ vs.length ≤ 4 := by rw [hd, hFd]; split <;> omega
 have hE := bke h1 (by omega : i ≤ 12)
 have hB := bk_ok h1 (by omega : i ≤ 12)
 have hplain := hB.plain
 have hmany := hB.many
 obtain ⟨k1, k2, k3⟩ := told_ent h1 h2 hd hf hs
 have hent := rent_ok i h1 (by omega) (hTold i vs)
 rw [k1, k2] at hent
 have hrk := hE.ra k3
 have hcl := code_len h1 (by omega : i ≤ 12) k3
 have hL : huffL i vs = codeL (bPlain i) (rkE i (entN i (hTold i vs))) ++ hSg vs ++ hEs i vs := by unfold huffL; rw [if_neg (by rw [hs]; simp)]
 refine pcall_body ty_ok Try.func54 rfl (by rfl) (by simp) ?_
 rw [Try.ntmps54]
 refine swp_seq fun K1 hK1 => ?_
 refine swp_region ty_ok ?_
 try simp (maxSteps := 1000000) [bookV]
 repeat' (first | apply And.intro | intro _)
 any_goals (first | (refine hK1 _ ?_; clear hK1) | (first | omega | (simp only [IntKind.wrap_i64] at *; omega) | (simp_all; done) | (simp_all; omega)))
 refine swp_seq fun K2 hK2 => ?_
 refine swp_region ty_ok ?_
 try simp (maxSteps := 1000000) [bookV]
 repeat' (first | apply And.intro | intro _)
 any_goals (first | (refine hK2 _ ?_; clear hK2) | (first | omega | (simp only [IntKind.wrap_i64] at *; omega) | (simp_all; done) | (simp_all; omega)))
 refine swp_seq fun K3 hK3 => ?_
 refine swp_region ty_ok ?_
 try simp (maxSteps := 1000000) [bookV]
 repeat' (first | apply And.intro | intro _)
 any_goals (first | (refine hK3 _ ?_; clear hK3) | (first | omega | (simp only [IntKind.wrap_i64] at *; omega) | (simp_all; done) | (simp_all; omega)))
 refine swp_seq fun K4 hK4 => ?_
 refine swp_region ty_ok ?_
 try simp (maxSteps := 1000000) [bookV]
 repeat' (first | apply And.intro | intro _)
 any_goals (first | (refine hK4 _ ?_; clear hK4) | (first | omega | (simp only [IntKind.wrap_i64] at *; omega) | (simp_all; done) | (simp_all; omega)))
 refine swp_seq fun K5 hK5 => ?_
 refine swp_seq fun K6 hK6 => ?_
 refine swp_region ty_ok ?_
 try simp (maxSteps := 1000000) [bookV]
 repeat' (first | apply And.intro | intro _)
 any_goals (first | (refine hK6 _ ?_; clear hK6) | (first | omega | (simp only [IntKind.wrap_i64] at *; omega) | (simp_all; done) | (simp_all; omega)))
 refine swp_block ?_
 refine swp_own 5 3 (by simp [getT]; rfl) rfl ?_
 refine swp_own 6 5 (by simp [getT]; rfl) rfl ?_
 refine swp_own 7 5 (by simp [getT]; rfl) rfl ?_
 refine swp_loop 4 (fun m_ s_ => ∃ (k : Nat), (k ≤ vs.length) ∧ s_ = ⟨[(1, .ro (.ints .i64 vs)), (2, .ptr 0 0 0 1), (5, .sl 1 0 k k), (6, .sl 2 0 (hSg (vs.take k)).length (hSg (vs.take k)).length), (7, .sl 3 0 (hEs i (vs.take k)).length (hEs i (vs.take k)).length), (8, .int .i64 (k : Nat))], [(0, some ⟨.rows 4 [[.int .i64 (i : Nat), .int .i64 (bPlain i : Nat), .ro (.ints .i64 (bE i)), .ro (.ints .i64 (bR i))]], true, 25⟩), (1, some ⟨.ints .i64 (hTold i (vs.take k)), false, 3⟩), (2, some ⟨.ints .u8 (hSg (vs.take k)), false, 5⟩), (3, some ⟨.ints .u8 (hEs i (vs.take k)), false, 5⟩)], 4⟩ ∧ m_ = vs.length - k) _ ⟨[(1, .ro (.ints .i64 vs)), (2, .ptr 0 0 0 1), (5, .sl 1 0 0 0), (6, .sl 2 0 (hSg (vs.take 0)).length (hSg (vs.take 0)).length), (7, .sl 3 0 (hEs i (vs.take 0)).length (hEs i (vs.take 0)).length), (8, .int .i64 (0 : Nat))], [(0, some ⟨.rows 4 [[.int .i64 (i : Nat), .int .i64 (bPlain i : Nat), .ro (.ints .i64 (bE i)), .ro (.ints .i64 (bR i))]], true, 25⟩), (1, some ⟨.ints .i64 (hTold i (vs.take 0)), false, 3⟩), (2, some ⟨.ints .u8 (hSg (vs.take 0)), false, 5⟩), (3, some ⟨.ints .u8 (hEs i (vs.take 0)), false, 5⟩)], 4⟩ ⟨by simp [getT, PV.lo, lo1, hTold, hSg, hEs], by simp [getH, Blk.lo, Cells.lo, lo1, hTold, hSg, hEs], rfl, by omega⟩ ⟨(0), by (first | omega | (simp only [IntKind.wrap_i64] at *; omega) | (simp_all; done) | (simp_all; omega)), rfl, rfl⟩ ?_
 rintro m_ s_ ⟨k, hL7_0, rfl, rfl⟩ KL7 hL7
 have hkw := wnext (i := k) (by omega)
 refine swp_seq fun K8 hK8 => ?_
 refine swp_seq fun K9 hK9 => ?_
 refine swp_region ty_ok ?_
 try simp (maxSteps := 1000000) [bookV]
 repeat' (first | apply And.intro | intro _)
 any_goals (first | (refine hK9 _ ?_; clear hK9) | (first | omega | (simp only [IntKind.wrap_i64] at *; omega) | (simp_all; done) | (simp_all; omega)))
 refine swp_if fun C10 hC10 => ?_
 try simp (maxSteps := 1000000) [bookV]
 refine hC10 _ (fun hc10 => ?_) (fun hc10 => ?_)
 ·clear hC10
  try simp at hc10
  refine swp_skip ?_
  try simp only [thn, inBlk]
  refine hK8 _ ?_; clear hK8
  refine swp_seq fun K11 hK11 => ?_
  refine swp_block ?_
  refine swp_seq fun K12 hK12 => ?_
  have hkl : k < vs.length := (by have h := hc10; omega)
  obtain ⟨v, hv⟩ : ∃ v, vs[k]?.getD 0 = v := ⟨_, rfl⟩
  have hmem : v ∈ vs := by rw [← hv, List.getElem?_eq_getElem hkl]; exact List.getElem_mem hkl
  have hvb := fit_bd h1 h2 hf hmem
  have ht := told_snoc (i := i) hkl
  have hsn := sg_snoc hkl
  have hen := es_snoc (i := i) hkl
  rw [hv] at ht hsn hen
  have htl : (hTold i (vs.take (k + 1))).length = k + 1 := by rw [told_len, List.length_take]; omega
  have hslk : (hSg (vs.take k)).length ≤ 4 := by have := sg_len (vs.take k); rw [List.length_take] at this; omega
  have helk : (hEs i (vs.take k)).length ≤ 84 := by have := es_len (i := i) (vs := vs.take k) (fun w hw => ⟨(fit_bd h1 h2 hf (List.mem_of_mem_take hw)).2.2.1, (fit_bd h1 h2 hf (List.mem_of_mem_take hw)).2.2.2⟩); rw [List.length_take] at this; omega
  have hsl : (hSg (vs.take (k + 1))).length = (hSg (vs.take k)).length + (hS1 v).length := by rw [hsn, List.length_append]
  have hel : (hEs i (vs.take (k + 1))).length = (hEs i (vs.take k)).length + (hE1 i v).length := by rw [hen, List.length_append]
  have htlk : (hTold i (vs.take k)).length = k := by rw [told_len, List.length_take]; omega
  refine swp_region ty_ok ?_
  try simp (maxSteps := 1000000) [bookV, hv]
  repeat' (first | apply And.intro | intro _)
  any_goals (first | (refine hK12 _ ?_; clear hK12) | (first | omega | (simp only [IntKind.wrap_i64] at *; omega) | (simp_all; done) | (simp_all; omega)))
  refine swp_seq fun K13 hK13 => ?_
  refine swp_seq fun K14 hK14 => ?_
  refine swp_region ty_ok ?_
  refine runs_cut 2 fun R15 hR15 => ?_
  try simp (maxSteps := 1000000) [bookV, List.take_succ_cons, List.take_zero, List.drop_succ_cons, List.drop_zero]
  repeat' (first | apply And.intro | intro _)
  any_goals (first | (refine hR15 _ ?_; clear hR15) | (first | omega | (simp only [IntKind.wrap_i64] at *; omega) | (simp_all; done) | (simp_all; omega)))
  try simp (maxSteps := 1000000) [bookV, List.take_succ_cons, List.take_zero, List.drop_succ_cons, List.drop_zero]
  refine .inl ⟨_, rsig_ok i h1 h2, ?_⟩
  try simp (maxSteps := 1000000) [bookV]
  repeat' (first | apply And.intro | intro _)
  any_goals (first | (refine hK14 _ ?_; clear hK14) | (first | omega | (simp only [IntKind.wrap_i64] at *; omega) | (simp_all; done) | (simp_all; omega)))
  refine swp_if fun C16 hC16 => ?_
  try simp (maxSteps := 1000000) [bookV]
  refine hC16 _ (fun hc16 => ?_) (fun hc16 => ?_)
  ·exact absurd hc16 (by simp [hs])
  ·clear hC16
   try simp at hc16
   refine swp_skip ?_
   try simp only [thn, inBlk]
   refine hK13 _ ?_; clear hK13
   refine swp_seq fun K17 hK17 => ?_
   refine swp_seq fun K18 hK18 => ?_
   refine swp_region ty_ok ?_
   try simp (maxSteps := 1000000) [bookV]
   repeat' (first | apply And.intro | intro _)
   any_goals (first | (refine hK18 _ ?_; clear hK18) | (first | omega | (simp only [IntKind.wrap_i64] at *; omega) | (simp_all; done) | (simp_all; omega)))
   refine swp_if fun C19 hC19 => ?_
   try simp (maxSteps := 1000000) [bookV]
   refine hC19 _ (fun hc19 => ?_) (fun hc19 => ?_)
   ·clear hC19
    try simp at hc19
    have hS : hS1 v = [1] := by unfold hS1; rw [if_neg (by have h := hc19; omega), if_pos hc19]
    refine swp_region ty_ok ?_
    refine runs_cut 1 fun R20 hR20 => ?_
    try simp (maxSteps := 1000000) [bookV, List.take_succ_cons, List.take_zero, List.drop_succ_cons, List.drop_zero]
    repeat' (first | apply And.intro | intro _)
    any_goals (first | (refine hR20 _ ?_; clear hR20) | (first | omega | (simp only [IntKind.wrap_i64] at *; omega) | (simp_all; done) | (simp_all; omega)))
    refine runs_cut 1 fun R21 hR21 => ?_
    try simp (maxSteps := 1000000) [bookV, List.take_succ_cons, List.take_zero, List.drop_succ_cons, List.drop_zero]
    repeat' (first | apply And.intro | intro _)
    any_goals (first | (refine Or.inl (hR21 _ ?_); clear hR21) | (first | omega | (simp only [IntKind.wrap_i64] at *; omega) | (simp_all; done) | (simp_all; omega)))
    try simp (maxSteps := 1000000) [bookV, List.take_succ_cons, List.take_zero, List.drop_succ_cons, List.drop_zero]
    repeat' (first | apply And.intro | intro _)
    any_goals (first | (refine hK17 _ ?_; clear hK17) | (first | omega | (simp only [IntKind.wrap_i64] at *; omega) | (simp_all; done) | (simp_all; omega)))
    refine swp_seq fun K22 hK22 => ?_
    refine swp_seq fun K23 hK23 => ?_
    refine swp_region ty_ok ?_
    try simp (maxSteps := 1000000) [bookV]
    repeat' (first | apply And.intro | intro _)
    any_goals (first | (refine hK23 _ ?_; clear hK23) | (first | omega | (simp only [IntKind.wrap_i64] at *; omega) | (simp_all; done) | (simp_all; omega)))
    refine swp_if fun C24 hC24 => ?_
    try simp (maxSteps := 1000000) [bookV]
    refine hC24 _ (fun hc24 => ?_) (fun hc24 => ?_)
    ·exfalso
     have h := hc24
     simp at h
     omega
    ·clear hC24
     try simp at hc24
     refine swp_skip ?_
     try simp only [thn, inBlk]
     refine hK22 _ ?_; clear hK22
     refine swp_seq fun K25 hK25 => ?_
     first | (have hSS := hS) | (have hS : hS1 v = [] := by unfold hS1; rw [if_pos (by omega)])
     refine swp_region ty_ok ?_
     refine runs_cut 1 fun R26 hR26 => ?_
     try simp (maxSteps := 1000000) [bookV, List.take_succ_cons, List.take_zero, List.drop_succ_cons, List.drop_zero]
     repeat' (first | apply And.intro | intro _)
     any_goals (first | (refine hR26 _ ?_; clear hR26) | (first | omega | (simp only [IntKind.wrap_i64] at *; omega) | (simp_all; done) | (simp_all; omega)))
     refine runs_cut 1 fun R27 hR27 => ?_
     try simp (maxSteps := 1000000) [bookV, List.take_succ_cons, List.take_zero, List.drop_succ_cons, List.drop_zero]
     refine .inl ⟨_, rabs_ok v (by omega), ?_⟩
     try simp (maxSteps := 1000000) [bookV]
     repeat' (first | apply And.intro | intro _)
     any_goals (first | (refine hR27 _ ?_; clear hR27) | (first | omega | (simp only [IntKind.wrap_i64] at *; omega) | (simp_all; done) | (simp_all; omega)))
     try simp (maxSteps := 1000000) [bookV, List.take_succ_cons, List.take_zero, List.drop_succ_cons, List.drop_zero]
     repeat' (first | apply And.intro | intro _)
     any_goals (first | (refine hK25 _ ?_; clear hK25) | (first | omega | (simp only [IntKind.wrap_i64] at *; omega) | (simp_all; done) | (simp_all; omega)))
     refine swp_seq fun K28 hK28 => ?_
     refine swp_seq fun K29 hK29 => ?_
     refine swp_region ty_ok ?_
     try simp (maxSteps := 1000000) [bookV]
     repeat' (first | apply And.intro | intro _)
     any_goals (first | (refine hK29 _ ?_; clear hK29) | (first | omega | (simp only [IntKind.wrap_i64] at *; omega) | (simp_all; done) | (simp_all; omega)))
     refine swp_if fun C30 hC30 => ?_
     try simp (maxSteps := 1000000) [bookV]
     refine hC30 _ (fun hc30 => ?_) (fun hc30 => ?_)
     ·clear hC30
      try simp at hc30
      refine swp_seq fun K31 hK31 => ?_
      have h16 : i = 11 ∧ 16 ≤ v.natAbs := (by have h := hc30; omega)
      obtain ⟨m, m1, m2, m3⟩ := e_band (n := v.natAbs) ⟨h16.2, by omega⟩
      obtain ⟨n1, n2⟩ := hM_band m1 m2 m3
      have hEy : hE1 i v = List.replicate m 1 ++ (0 :: bitsOf (v.natAbs - 2 ^ (m + 4)) (m + 4)) := by unfold hE1; rw [if_pos h16, n1, n2]
      have hTy : hT1 i v = 16 := by unfold hT1; rw [if_pos h16]
      have hbl := bitsOf_len (v.natAbs - 2 ^ (m + 4)) (m + 4)
      refine swp_region ty_ok ?_
      refine runs_cut 2 fun R32 hR32 => ?_
      try simp (maxSteps := 1000000) [bookV, List.take_succ_cons, List.take_zero, List.drop_succ_cons, List.drop_zero]
      repeat' (first | apply And.intro | intro _)
      any_goals (first | (refine hR32 _ ?_; clear hR32) | (first | omega | (simp only [IntKind.wrap_i64] at *; omega) | (simp_all; done) | (simp_all; omega)))
      refine runs_cut 1 fun R33 hR33 => ?_
      try simp (maxSteps := 1000000) [bookV, List.take_succ_cons, List.take_zero, List.drop_succ_cons, List.drop_zero]
      refine .inl ⟨_, resca_ok v.natAbs m m1 m2 m3, ?_⟩
      try simp (maxSteps := 1000000) [bookV]
      repeat' (first | apply And.intro | intro _)
      any_goals (first | (refine hR33 _ ?_; clear hR33) | (first | omega | (simp only [IntKind.wrap_i64] at *; omega) | (simp_all; done) | (simp_all; omega)))
      try simp (maxSteps := 1000000) [bookV, List.take_succ_cons, List.take_zero, List.drop_succ_cons, List.drop_zero]
      repeat' (first | apply And.intro | intro _)
      any_goals (first | (refine hK31 _ ?_; clear hK31) | (first | omega | (simp only [IntKind.wrap_i64] at *; omega) | (simp_all; done) | (simp_all; omega)))
      refine swp_region ty_ok ?_
      try simp (maxSteps := 1000000) [bookV]
      repeat' (first | apply And.intro | intro _)
      any_goals (first | (refine hK28 _ ?_; clear hK28) | (first | omega | (simp only [IntKind.wrap_i64] at *; omega) | (simp_all; done) | (simp_all; omega)))
      first | (have hTT := hTy) | (have h16 : ¬ (i = 11 ∧ 16 ≤ v.natAbs) := (by have h := hc30; omega); have hTy : hT1 i v = v.natAbs := (by unfold hT1; rw [if_neg h16]); have hEy : hE1 i v = [] := (by unfold hE1; rw [if_neg h16]))
      refine swp_region ty_ok ?_
      refine runs_cut 2 fun R34 hR34 => ?_
      try simp (maxSteps := 1000000) [bookV, htlk, List.take_succ_cons, List.take_zero, List.drop_succ_cons, List.drop_zero]
      repeat' (first | apply And.intro | intro _)
      any_goals (first | (refine hR34 _ ?_; clear hR34) | (first | omega | (simp only [IntKind.wrap_i64] at *; omega) | (simp_all; done) | (simp_all; omega)))
      refine runs_cut 1 fun R35 hR35 => ?_
      try simp (maxSteps := 1000000) [bookV, htlk, List.take_succ_cons, List.take_zero, List.drop_succ_cons, List.drop_zero]
      repeat' (first | apply And.intro | intro _)
      any_goals (first | (refine Or.inl (hR35 _ ?_); clear hR35) | (first | omega | (simp only [IntKind.wrap_i64] at *; omega) | (simp_all; done) | (simp_all; omega)))
      try simp (maxSteps := 1000000) [bookV, htlk, List.take_succ_cons, List.take_zero, List.drop_succ_cons, List.drop_zero]
      repeat' (first | apply And.intro | intro _)
      any_goals (first | (refine hK11 _ ?_; clear hK11) | (first | omega | (simp only [IntKind.wrap_i64] at *; omega) | (simp_all; done) | (simp_all; omega)))
      refine swp_region ty_ok ?_
      try simp (maxSteps := 1000000) [bookV]
      repeat' apply And.intro
      any_goals (try omega)
      refine hL7 _ ⟨[(1, .ro (.ints .i64 vs)), (2, .ptr 0 0 0 1), (5, .sl 1 0 (k + 1) (k + 1)), (6, .sl 2 0 (hSg (vs.take (k + 1))).length (hSg (vs.take (k + 1))).length), (7, .sl 3 0 (hEs i (vs.take (k + 1))).length (hEs i (vs.take (k + 1))).length), (8, .int .i64 ((k + 1) : Nat))], [(0, some ⟨.rows 4 [[.int .i64 (i : Nat), .int .i64 (bPlain i : Nat), .ro (.ints .i64 (bE i)), .ro (.ints .i64 (bR i))]], true, 25⟩), (1, some ⟨.ints .i64 (hTold i (vs.take (k + 1))), false, 3⟩), (2, some ⟨.ints .u8 (hSg (vs.take (k + 1))), false, 5⟩), (3, some ⟨.ints .u8 (hEs i (vs.take (k + 1))), false, 5⟩)], 4⟩ _ ?_ ⟨(k + 1), by (first | omega | (simp only [IntKind.wrap_i64] at *; omega) | (simp_all; done) | (simp_all; omega)), rfl, rfl⟩ ⟨by simp [getT, PV.lo, lo1, hkw, hsl, hel, hS, hEy, htl], by simp [getH, Blk.lo, Cells.lo, lo1, ht, hsn, hen, hS, hTy, hEy], rfl, by omega⟩
      omega
     ·clear hC30
      try simp at hc30
      refine swp_skip ?_
      try simp only [thn, inBlk]
      refine hK28 _ ?_; clear hK28
      first | (have hTT := hTy) | (have h16 : ¬ (i = 11 ∧ 16 ≤ v.natAbs) := (by have h := hc30; omega); have hTy : hT1 i v = v.natAbs := (by unfold hT1; rw [if_neg h16]); have hEy : hE1 i v = [] := (by unfold hE1; rw [if_neg h16]))
      refine swp_region ty_ok ?_
      refine runs_cut 2 fun R36 hR36 => ?_
      try simp (maxSteps := 1000000) [bookV, htlk, List.take_succ_cons, List.take_zero, List.drop_succ_cons, List.drop_zero]
      repeat' (first | apply And.intro | intro _)
      any_goals (first | (refine hR36 _ ?_; clear hR36) | (first | omega | (simp only [IntKind.wrap_i64] at *; omega) | (simp_all; done) | (simp_all; omega)))
      refine runs_cut 1 fun R37 hR37 => ?_
      try simp (maxSteps := 1000000) [bookV, htlk, List.take_succ_cons, List.take_zero, List.drop_succ_cons, List.drop_zero]
      repeat' (first | apply And.intro | intro _)
      any_goals (first | (refine Or.inl (hR37 _ ?_); clear hR37) | (first | omega | (simp only [IntKind.wrap_i64] at *; omega) | (simp_all; done) | (simp_all; omega)))
      try simp (maxSteps := 1000000) [bookV, htlk, List.take_succ_cons, List.take_zero, List.drop_succ_cons, List.drop_zero]
      repeat' (first | apply And.intro | intro _)
      any_goals (first | (refine hK11 _ ?_; clear hK11) | (first | omega | (simp only [IntKind.wrap_i64] at *; omega) | (simp_all; done) | (simp_all; omega)))
      refine swp_region ty_ok ?_
      try simp (maxSteps := 1000000) [bookV]
      repeat' apply And.intro
      any_goals (try omega)
      refine hL7 _ ⟨[(1, .ro (.ints .i64 vs)), (2, .ptr 0 0 0 1), (5, .sl 1 0 (k + 1) (k + 1)), (6, .sl 2 0 (hSg (vs.take (k + 1))).length (hSg (vs.take (k + 1))).length), (7, .sl 3 0 (hEs i (vs.take (k + 1))).length (hEs i (vs.take (k + 1))).length), (8, .int .i64 ((k + 1) : Nat))], [(0, some ⟨.rows 4 [[.int .i64 (i : Nat), .int .i64 (bPlain i : Nat), .ro (.ints .i64 (bE i)), .ro (.ints .i64 (bR i))]], true, 25⟩), (1, some ⟨.ints .i64 (hTold i (vs.take (k + 1))), false, 3⟩), (2, some ⟨.ints .u8 (hSg (vs.take (k + 1))), false, 5⟩), (3, some ⟨.ints .u8 (hEs i (vs.take (k + 1))), false, 5⟩)], 4⟩ _ ?_ ⟨(k + 1), by (first | omega | (simp only [IntKind.wrap_i64] at *; omega) | (simp_all; done) | (simp_all; omega)), rfl, rfl⟩ ⟨by simp [getT, PV.lo, lo1, hkw, hsl, hel, hS, hEy, htl], by simp [getH, Blk.lo, Cells.lo, lo1, ht, hsn, hen, hS, hTy, hEy], rfl, by omega⟩
      omega
   ·clear hC19
    try simp at hc19
    refine swp_skip ?_
    try simp only [thn, inBlk]
    refine hK17 _ ?_; clear hK17
    refine swp_seq fun K38 hK38 => ?_
    refine swp_seq fun K39 hK39 => ?_
    refine swp_region ty_ok ?_
    try simp (maxSteps := 1000000) [bookV]
    repeat' (first | apply And.intro | intro _)
    any_goals (first | (refine hK39 _ ?_; clear hK39) | (first | omega | (simp only [IntKind.wrap_i64] at *; omega) | (simp_all; done) | (simp_all; omega)))
    refine swp_if fun C40 hC40 => ?_
    try simp (maxSteps := 1000000) [bookV]
    refine hC40 _ (fun hc40 => ?_) (fun hc40 => ?_)
    ·clear hC40
     try simp at hc40
     have hS : hS1 v = [0] := by unfold hS1; rw [if_neg (by have h := hc40; omega), if_neg (by have h := hc40; omega)]
     refine swp_region ty_ok ?_
     refine runs_cut 1 fun R41 hR41 => ?_
     try simp (maxSteps := 1000000) [bookV, List.take_succ_cons, List.take_zero, List.drop_succ_cons, List.drop_zero]
     repeat' (first | apply And.intro | intro _)
     any_goals (first | (refine hR41 _ ?_; clear hR41) | (first | omega | (simp only [IntKind.wrap_i64] at *; omega) | (simp_all; done) | (simp_all; omega)))
     refine runs_cut 1 fun R42 hR42 => ?_
     try simp (maxSteps := 1000000) [bookV, List.take_succ_cons, List.take_zero, List.drop_succ_cons, List.drop_zero]
     repeat' (first | apply And.intro | intro _)
     any_goals (first | (refine Or.inl (hR42 _ ?_); clear hR42) | (first | omega | (simp only [IntKind.wrap_i64] at *; omega) | (simp_all; done) | (simp_all; omega)))
     try simp (maxSteps := 1000000) [bookV, List.take_succ_cons, List.take_zero, List.drop_succ_cons, List.drop_zero]
     repeat' (first | apply And.intro | intro _)
     any_goals (first | (refine hK38 _ ?_; clear hK38) | (first | omega | (simp only [IntKind.wrap_i64] at *; omega) | (simp_all; done) | (simp_all; omega)))
     refine swp_seq fun K43 hK43 => ?_
     first | (have hSS := hS) | (have hS : hS1 v = [] := by unfold hS1; rw [if_pos (by omega)])
     refine swp_region ty_ok ?_
     refine runs_cut 1 fun R44 hR44 => ?_
     try simp (maxSteps := 1000000) [bookV, List.take_succ_cons, List.take_zero, List.drop_succ_cons, List.drop_zero]
     repeat' (first | apply And.intro | intro _)
     any_goals (first | (refine hR44 _ ?_; clear hR44) | (first | omega | (simp only [IntKind.wrap_i64] at *; omega) | (simp_all; done) | (simp_all; omega)))
     refine runs_cut 1 fun R45 hR45 => ?_
     try simp (maxSteps := 1000000) [bookV, List.take_succ_cons, List.take_zero, List.drop_succ_cons, List.drop_zero]
     refine .inl ⟨_, rabs_ok v (by omega), ?_⟩
     try simp (maxSteps := 1000000) [bookV]
     repeat' (first | apply And.intro | intro _)
     any_goals (first | (refine hR45 _ ?_; clear hR45) | (first | omega | (simp only [IntKind.wrap_i64] at *; omega) | (simp_all; done) | (simp_all; omega)))
     try simp (maxSteps := 1000000) [bookV, List.take_succ_cons, List.take_zero, List.drop_succ_cons, List.drop_zero]
     repeat' (first | apply And.intro | intro _)
     any_goals (first | (refine hK43 _ ?_; clear hK43) | (first | omega | (simp only [IntKind.wrap_i64] at *; omega) | (simp_all; done) | (simp_all; omega)))
     refine swp_seq fun K46 hK46 => ?_
     refine swp_seq fun K47 hK47 => ?_
     refine swp_region ty_ok ?_
     try simp (maxSteps := 1000000) [bookV]
     repeat' (first | apply And.intro | intro _)
     any_goals (first | (refine hK47 _ ?_; clear hK47) | (first | omega | (simp only [IntKind.wrap_i64] at *; omega) | (simp_all; done) | (simp_all; omega)))
     refine swp_if fun C48 hC48 => ?_
     try simp (maxSteps := 1000000) [bookV]
     refine hC48 _ (fun hc48 => ?_) (fun hc48 => ?_)
     ·clear hC48
      try simp at hc48
      refine swp_seq fun K49 hK49 => ?_
      have h16 : i = 11 ∧ 16 ≤ v.natAbs := (by have h := hc48; omega)
      obtain ⟨m, m1, m2, m3⟩ := e_band (n := v.natAbs) ⟨h16.2, by omega⟩
      obtain ⟨n1, n2⟩ := hM_band m1 m2 m3
      have hEy : hE1 i v = List.replicate m 1 ++ (0 :: bitsOf (v.natAbs - 2 ^ (m + 4)) (m + 4)) := by unfold hE1; rw [if_pos h16, n1, n2]
      have hTy : hT1 i v = 16 := by unfold hT1; rw [if_pos h16]
      have hbl := bitsOf_len (v.natAbs - 2 ^ (m + 4)) (m + 4)
      refine swp_region ty_ok ?_
      refine runs_cut 2 fun R50 hR50 => ?_
      try simp (maxSteps := 1000000) [bookV, List.take_succ_cons, List.take_zero, List.drop_succ_cons, List.drop_zero]
      repeat' (first | apply And.intro | intro _)
      any_goals (first | (refine hR50 _ ?_; clear hR50) | (first | omega | (simp only [IntKind.wrap_i64] at *; omega) | (simp_all; done) | (simp_all; omega)))
      refine runs_cut 1 fun R51 hR51 => ?_
      try simp (maxSteps := 1000000) [bookV, List.take_succ_cons, List.take_zero, List.drop_succ_cons, List.drop_zero]
      refine .inl ⟨_, resca_ok v.natAbs m m1 m2 m3, ?_⟩
      try simp (maxSteps := 1000000) [bookV]
      repeat' (first | apply And.intro | intro _)
      any_goals (first | (refine hR51 _ ?_; clear hR51) | (first | omega | (simp only [IntKind.wrap_i64] at *; omega) | (simp_all; done) | (simp_all; omega)))
      try simp (maxSteps := 1000000) [bookV, List.take_succ_cons, List.take_zero, List.drop_succ_cons, List.drop_zero]
      repeat' (first | apply And.intro | intro _)
      any_goals (first | (refine hK49 _ ?_; clear hK49) | (first | omega | (simp only [IntKind.wrap_i64] at *; omega) | (simp_all; done) | (simp_all; omega)))
      refine swp_region ty_ok ?_
      try simp (maxSteps := 1000000) [bookV]
      repeat' (first | apply And.intro | intro _)
      any_goals (first | (refine hK46 _ ?_; clear hK46) | (first | omega | (simp only [IntKind.wrap_i64] at *; omega) | (simp_all; done) | (simp_all; omega)))
      first | (have hTT := hTy) | (have h16 : ¬ (i = 11 ∧ 16 ≤ v.natAbs) := (by have h := hc48; omega); have hTy : hT1 i v = v.natAbs := (by unfold hT1; rw [if_neg h16]); have hEy : hE1 i v = [] := (by unfold hE1; rw [if_neg h16]))
      refine swp_region ty_ok ?_
      refine runs_cut 2 fun R52 hR52 => ?_
      try simp (maxSteps := 1000000) [bookV, htlk, List.take_succ_cons, List.take_zero, List.drop_succ_cons, List.drop_zero]
      repeat' (first | apply And.intro | intro _)
      any_goals (first | (refine hR52 _ ?_; clear hR52) | (first | omega | (simp only [IntKind.wrap_i64] at *; omega) | (simp_all; done) | (simp_all; omega)))
      refine runs_cut 1 fun R53 hR53 => ?_
      try simp (maxSteps := 1000000) [bookV, htlk, List.take_succ_cons, List.take_zero, List.drop_succ_cons, List.drop_zero]
      repeat' (first | apply And.intro | intro _)
      any_goals (first | (refine Or.inl (hR53 _ ?_); clear hR53) | (first | omega | (simp only [IntKind.wrap_i64] at *; omega) | (simp_all; done) | (simp_all; omega)))
      try simp (maxSteps := 1000000) [bookV, htlk, List.take_succ_cons, List.take_zero, List.drop_succ_cons, List.drop_zero]
      repeat' (first | apply And.intro | intro _)
      any_goals (first | (refine hK11 _ ?_; clear hK11) | (first | omega | (simp only [IntKind.wrap_i64] at *; omega) | (simp_all; done) | (simp_all; omega)))
      refine swp_region ty_ok ?_
      try simp (maxSteps := 1000000) [bookV]
      repeat' apply And.intro
      any_goals (try omega)
      refine hL7 _ ⟨[(1, .ro (.ints .i64 vs)), (2, .ptr 0 0 0 1), (5, .sl 1 0 (k + 1) (k + 1)), (6, .sl 2 0 (hSg (vs.take (k + 1))).length (hSg (vs.take (k + 1))).length), (7, .sl 3 0 (hEs i (vs.take (k + 1))).length (hEs i (vs.take (k + 1))).length), (8, .int .i64 ((k + 1) : Nat))], [(0, some ⟨.rows 4 [[.int .i64 (i : Nat), .int .i64 (bPlain i : Nat), .ro (.ints .i64 (bE i)), .ro (.ints .i64 (bR i))]], true, 25⟩), (1, some ⟨.ints .i64 (hTold i (vs.take (k + 1))), false, 3⟩), (2, some ⟨.ints .u8 (hSg (vs.take (k + 1))), false, 5⟩), (3, some ⟨.ints .u8 (hEs i (vs.take (k + 1))), false, 5⟩)], 4⟩ _ ?_ ⟨(k + 1), by (first | omega | (simp only [IntKind.wrap_i64] at *; omega) | (simp_all; done) | (simp_all; omega)), rfl, rfl⟩ ⟨by simp [getT, PV.lo, lo1, hkw, hsl, hel, hS, hEy, htl], by simp [getH, Blk.lo, Cells.lo, lo1, ht, hsn, hen, hS, hTy, hEy], rfl, by omega⟩
      omega
     ·clear hC48
      try simp at hc48
      refine swp_skip ?_
      try simp only [thn, inBlk]
      refine hK46 _ ?_; clear hK46
      first | (have hTT := hTy) | (have h16 : ¬ (i = 11 ∧ 16 ≤ v.natAbs) := (by have h := hc48; omega); have hTy : hT1 i v = v.natAbs := (by unfold hT1; rw [if_neg h16]); have hEy : hE1 i v = [] := (by unfold hE1; rw [if_neg h16]))
      refine swp_region ty_ok ?_
      refine runs_cut 2 fun R54 hR54 => ?_
      try simp (maxSteps := 1000000) [bookV, htlk, List.take_succ_cons, List.take_zero, List.drop_succ_cons, List.drop_zero]
      repeat' (first | apply And.intro | intro _)
      any_goals (first | (refine hR54 _ ?_; clear hR54) | (first | omega | (simp only [IntKind.wrap_i64] at *; omega) | (simp_all; done) | (simp_all; omega)))
      refine runs_cut 1 fun R55 hR55 => ?_
      try simp (maxSteps := 1000000) [bookV, htlk, List.take_succ_cons, List.take_zero, List.drop_succ_cons, List.drop_zero]
      repeat' (first | apply And.intro | intro _)
      any_goals (first | (refine Or.inl (hR55 _ ?_); clear hR55) | (first | omega | (simp only [IntKind.wrap_i64] at *; omega) | (simp_all; done) | (simp_all; omega)))
      try simp (maxSteps := 1000000) [bookV, htlk, List.take_succ_cons, List.take_zero, List.drop_succ_cons, List.drop_zero]
      repeat' (first | apply And.intro | intro _)
      any_goals (first | (refine hK11 _ ?_; clear hK11) | (first | omega | (simp only [IntKind.wrap_i64] at *; omega) | (simp_all; done) | (simp_all; omega)))
      refine swp_region ty_ok ?_
      try simp (maxSteps := 1000000) [bookV]
      repeat' apply And.intro
      any_goals (try omega)
      refine hL7 _ ⟨[(1, .ro (.ints .i64 vs)), (2, .ptr 0 0 0 1), (5, .sl 1 0 (k + 1) (k + 1)), (6, .sl 2 0 (hSg (vs.take (k + 1))).length (hSg (vs.take (k + 1))).length), (7, .sl 3 0 (hEs i (vs.take (k + 1))).length (hEs i (vs.take (k + 1))).length), (8, .int .i64 ((k + 1) : Nat))], [(0, some ⟨.rows 4 [[.int .i64 (i : Nat), .int .i64 (bPlain i : Nat), .ro (.ints .i64 (bE i)), .ro (.ints .i64 (bR i))]], true, 25⟩), (1, some ⟨.ints .i64 (hTold i (vs.take (k + 1))), false, 3⟩), (2, some ⟨.ints .u8 (hSg (vs.take (k + 1))), false, 5⟩), (3, some ⟨.ints .u8 (hEs i (vs.take (k + 1))), false, 5⟩)], 4⟩ _ ?_ ⟨(k + 1), by (first | omega | (simp only [IntKind.wrap_i64] at *; omega) | (simp_all; done) | (simp_all; omega)), rfl, rfl⟩ ⟨by simp [getT, PV.lo, lo1, hkw, hsl, hel, hS, hEy, htl], by simp [getH, Blk.lo, Cells.lo, lo1, ht, hsn, hen, hS, hTy, hEy], rfl, by omega⟩
      omega
    ·clear hC40
     try simp at hc40
     refine swp_skip ?_
     try simp only [thn, inBlk]
     refine hK38 _ ?_; clear hK38
     refine swp_seq fun K56 hK56 => ?_
     first | (have hSS := hS) | (have hS : hS1 v = [] := by unfold hS1; rw [if_pos (by omega)])
     refine swp_region ty_ok ?_
     refine runs_cut 1 fun R57 hR57 => ?_
     try simp (maxSteps := 1000000) [bookV, List.take_succ_cons, List.take_zero, List.drop_succ_cons, List.drop_zero]
     repeat' (first | apply And.intro | intro _)
     any_goals (first | (refine hR57 _ ?_; clear hR57) | (first | omega | (simp only [IntKind.wrap_i64] at *; omega) | (simp_all; done) | (simp_all; omega)))
     refine runs_cut 1 fun R58 hR58 => ?_
     try simp (maxSteps := 1000000) [bookV, List.take_succ_cons, List.take_zero, List.drop_succ_cons, List.drop_zero]
     refine .inl ⟨_, rabs_ok v (by omega), ?_⟩
     try simp (maxSteps := 1000000) [bookV]
     repeat' (first | apply And.intro | intro _)
     any_goals (first | (refine hR58 _ ?_; clear hR58) | (first | omega | (simp only [IntKind.wrap_i64] at *; omega) | (simp_all; done) | (simp_all; omega)))
     try simp (maxSteps := 1000000) [bookV, List.take_succ_cons, List.take_zero, List.drop_succ_cons, List.drop_zero]
     repeat' (first | apply And.intro | intro _)
     any_goals (first | (refine hK56 _ ?_; clear hK56) | (first | omega | (simp only [IntKind.wrap_i64] at *; omega) | (simp_all; done) | (simp_all; omega)))
     refine swp_seq fun K59 hK59 => ?_
     refine swp_seq fun K60 hK60 => ?_
     refine swp_region ty_ok ?_
     try simp (maxSteps := 1000000) [bookV]
     repeat' (first | apply And.intro | intro _)
     any_goals (first | (refine hK60 _ ?_; clear hK60) | (first | omega | (simp only [IntKind.wrap_i64] at *; omega) | (simp_all; done) | (simp_all; omega)))
     refine swp_if fun C61 hC61 => ?_
     try simp (maxSteps := 1000000) [bookV]
     refine hC61 _ (fun hc61 => ?_) (fun hc61 => ?_)
     ·exfalso
      have h := hc61
      simp at h
      omega
     ·clear hC61
      try simp at hc61
      refine swp_skip ?_
      try simp only [thn, inBlk]
      refine hK59 _ ?_; clear hK59
      first | (have hTT := hTy) | (have h16 : ¬ (i = 11 ∧ 16 ≤ v.natAbs) := (by have h := hc61; omega); have hTy : hT1 i v = v.natAbs := (by unfold hT1; rw [if_neg h16]); have hEy : hE1 i v = [] := (by unfold hE1; rw [if_neg h16]))
      refine swp_region ty_ok ?_
      refine runs_cut 2 fun R62 hR62 => ?_
      try simp (maxSteps := 1000000) [bookV, htlk, List.take_succ_cons, List.take_zero, List.drop_succ_cons, List.drop_zero]
      repeat' (first | apply And.intro | intro _)
      any_goals (first | (refine hR62 _ ?_; clear hR62) | (first | omega | (simp only [IntKind.wrap_i64] at *; omega) | (simp_all; done) | (simp_all; omega)))
      refine runs_cut 1 fun R63 hR63 => ?_
      try simp (maxSteps := 1000000) [bookV, htlk, List.take_succ_cons, List.take_zero, List.drop_succ_cons, List.drop_zero]
      repeat' (first | apply And.intro | intro _)
      any_goals (first | (refine Or.inl (hR63 _ ?_); clear hR63) | (first | omega | (simp only [IntKind.wrap_i64] at *; omega) | (simp_all; done) | (simp_all; omega)))
      try simp (maxSteps := 1000000) [bookV, htlk, List.take_succ_cons, List.take_zero, List.drop_succ_cons, List.drop_zero]
      repeat' (first | apply And.intro | intro _)
      any_goals (first | (refine hK11 _ ?_; clear hK11) | (first | omega | (simp only [IntKind.wrap_i64] at *; omega) | (simp_all; done) | (simp_all; omega)))
      refine swp_region ty_ok ?_
      try simp (maxSteps := 1000000) [bookV]
      repeat' apply And.intro
      any_goals (try omega)
      refine hL7 _ ⟨[(1, .ro (.ints .i64 vs)), (2, .ptr 0 0 0 1), (5, .sl 1 0 (k + 1) (k + 1)), (6, .sl 2 0 (hSg (vs.take (k + 1))).length (hSg (vs.take (k + 1))).length), (7, .sl 3 0 (hEs i (vs.take (k + 1))).length (hEs i (vs.take (k + 1))).length), (8, .int .i64 ((k + 1) : Nat))], [(0, some ⟨.rows 4 [[.int .i64 (i : Nat), .int .i64 (bPlain i : Nat), .ro (.ints .i64 (bE i)), .ro (.ints .i64 (bR i))]], true, 25⟩), (1, some ⟨.ints .i64 (hTold i (vs.take (k + 1))), false, 3⟩), (2, some ⟨.ints .u8 (hSg (vs.take (k + 1))), false, 5⟩), (3, some ⟨.ints .u8 (hEs i (vs.take (k + 1))), false, 5⟩)], 4⟩ _ ?_ ⟨(k + 1), by (first | omega | (simp only [IntKind.wrap_i64] at *; omega) | (simp_all; done) | (simp_all; omega)), rfl, rfl⟩ ⟨by simp [getT, PV.lo, lo1, hkw, hsl, hel, hS, hEy, htl], by simp [getH, Blk.lo, Cells.lo, lo1, ht, hsn, hen, hS, hTy, hEy], rfl, by omega⟩
      omega
 ·clear hC10
  try simp at hc10
  refine swp_exit ?_
  simp [thn, inBlk]
  refine hK5 _ ?_; clear hK5
  refine swp_seq fun K64 hK64 => ?_
  have hke : k = vs.length := (by omega)
  subst hke
  have htl0 := told_len i vs
  have hsgl := sg_len vs
  have hesl := es_len (i := i) (vs := vs) (fun w hw => ⟨(fit_bd h1 h2 hf hw).2.2.1, (fit_bd h1 h2 hf hw).2.2.2⟩)
  refine swp_region ty_ok ?_
  refine runs_cut 3 fun R65 hR65 => ?_
  try simp (maxSteps := 1000000) [bookV, htl0, List.take_length, List.take_succ_cons, List.take_zero, List.drop_succ_cons, List.drop_zero]
  repeat' (first | apply And.intro | intro _)
  any_goals (first | (refine hR65 _ ?_; clear hR65) | (first | omega | (simp only [IntKind.wrap_i64] at *; omega) | (simp_all; done) | (simp_all; omega)))
  refine runs_cut 1 fun R66 hR66 => ?_
  try simp (maxSteps := 1000000) [bookV, htl0, List.take_length, List.take_succ_cons, List.take_zero, List.drop_succ_cons, List.drop_zero]
  refine .inl ⟨_, hent, ?_⟩
  try simp (maxSteps := 1000000) [bookV, htl0, List.take_length]
  repeat' (first | apply And.intro | intro _)
  any_goals (first | (refine hR66 _ ?_; clear hR66) | (first | omega | (simp only [IntKind.wrap_i64] at *; omega) | (simp_all; done) | (simp_all; omega)))
  try simp (maxSteps := 1000000) [bookV, htl0, List.take_length, List.take_succ_cons, List.take_zero, List.drop_succ_cons, List.drop_zero]
  repeat' (first | apply And.intro | intro _)
  any_goals (first | (refine hK64 _ ?_; clear hK64) | (first | omega | (simp only [IntKind.wrap_i64] at *; omega) | (simp_all; done) | (simp_all; omega)))
  refine swp_seq fun K67 hK67 => ?_
  have hrk1 := hrk.1
  have hrl := hE.rlen
  refine swp_draw ty_ok mixed (ms := [0, 1, 0, 7, 15, 0, 32, 127, 255]) (by kernel_rfl) ?_
  refine runD_cut 7 fun R68 hR68 => ?_
  try simp (maxSteps := 1000000) [bookV, hrk1, hrl, List.take_succ_cons, List.take_zero, List.drop_succ_cons, List.drop_zero]
  repeat' (first | apply And.intro | intro _)
  any_goals (first | (refine hR68 _ _ _ _ ?_; clear hR68) | (first | omega | (simp only [IntKind.wrap_i64] at *; omega) | (simp_all; done) | (simp_all; omega)))
  refine runD_cut 1 fun R69 hR69 => ?_
  try simp (maxSteps := 1000000) [bookV, hrk1, hrl, List.take_succ_cons, List.take_zero, List.drop_succ_cons, List.drop_zero]
  refine .inr (hcl_mk (rkbits_h 60 (bPlain i) (rkE i (entN i (hTold i vs))) hplain (by have := hrk.2; unfold rkE; omega)) (by simp [PV.ids, id1, getH, Blk.inL, Cells.inL, inL1]) (by simp [PV.inL, inL1]) (by simp) ?_)
  try simp (maxSteps := 1000000) [bookV, hrk1, hrl]
  repeat' (first | apply And.intro | intro _)
  any_goals (first | (refine hR69 _ _ _ _ ?_; clear hR69) | (first | omega | (simp only [IntKind.wrap_i64] at *; omega) | (simp_all; done) | (simp_all; omega)))
  try simp (maxSteps := 1000000) [bookV, hrk1, hrl, List.take_succ_cons, List.take_zero, List.drop_succ_cons, List.drop_zero]
  repeat' (first | apply And.intro | intro _)
  any_goals (first | kernel_rfl | (refine hK67 _ ?_; clear hK67) | (first | omega | (simp only [IntKind.wrap_i64] at *; omega) | (simp_all; done) | (simp_all; omega)))
  refine swp_seq fun K71 hK71 => ?_
  refine swp_region ty_ok ?_
  try simp (maxSteps := 1000000) [bookV, Cells.sub, List.take_length]
  repeat' (first | apply And.intro | intro _)
  any_goals (first | (refine hK71 _ ?_; clear hK71) | (first | omega | (simp only [IntKind.wrap_i64] at *; omega) | (simp_all; done) | (simp_all; omega)))
  refine swp_seq fun K72 hK72 => ?_
  refine swp_region ty_ok ?_
  try simp (maxSteps := 1000000) [bookV, Cells.sub, List.take_length]
  repeat' (first | apply And.intro | intro _)
  any_goals (first | (refine hK72 _ ?_; clear hK72) | (first | omega | (simp only [IntKind.wrap_i64] at *; omega) | (simp_all; done) | (simp_all; omega)))
  refine swp_ret ?_
  simp [fnPost, Try.results54, resP, tupOf]
  exact ⟨by omega, by rw [hL, List.append_assoc]⟩

theorem rhbits_ok (i : Nat) (h1 : 1 ≤ i) (h2 : i ≤ 11) (vs : List Int) (hd : vs.length = bDim i) (hf : hFit i vs = true) : PCall Try.prog 54 [bookV i, .ro (.ints .i64 vs)] (.ro (.ints .u8 (huffL i vs))) := by
 cases hs : hSig i with
 | true => exact rhbits_s i h1 h2 vs hd hf hs
 | false => exact rhbits_u i h1 h2 vs hd hf hs
theorem huffL_len {i : Nat} (h1 : 1 ≤ i) (h2 : i ≤ 11) {vs : List Int} (hd : vs.length = bDim i) (hf : hFit i vs = true) : (huffL i vs).length ≤ 300 := by
 have hF := (hkF h1 h2).d
 have hvl : vs.length ≤ 4 := by rw [hd, hF]; split <;> omega
 unfold huffL
 cases hs : hSig i with
 | true =>
  rw [if_pos rfl]
  have := code_len h1 (by omega : i ≤ 12) (sig_ent h1 h2 hd hf hs).2.2
  omega
 | false =>
  rw [if_neg (by simp)]
  have := code_len h1 (by omega : i ≤ 12) (told_ent h1 h2 hd hf hs).2.2
  have := sg_len vs
  have := es_len (i := i) (vs := vs) (fun w hw => ⟨(fit_bd h1 h2 hf hw).2.2.1, (fit_bd h1 h2 hf hw).2.2.2⟩)
  simp only [List.length_append]
  omega

theorem rhput_many (i : Nat) (h1 : 1 ≤ i) (h2 : i ≤ 11) (b vs : List Int) (hd : ¬ vs.length = bDim i) : PCall Try.prog 16 [.ro (.ints .u8 b), bookV i, .ro (.ints .i64 vs)] (.tup [.ro (.ints .u8 []), .int .i64 4]) := by
 refine pcall_body ty_ok Try.func16 rfl (by rfl) (by simp) ?_
 rw [Try.ntmps16]
 refine swp_seq fun K1 hK1 => ?_
 refine swp_region ty_ok ?_
 try simp (maxSteps := 1000000) [bookV]
 repeat' (first | apply And.intro | intro _)
 any_goals (first | (refine hK1 _ ?_; clear hK1) | (first | omega | (simp only [IntKind.wrap_i64] at *; omega) | (simp_all; done) | (simp_all; omega)))
 refine swp_seq fun K2 hK2 => ?_
 refine swp_region ty_ok ?_
 refine runs_cut 1 fun R3 hR3 => ?_
 try simp (maxSteps := 1000000) [bookV, List.take_succ_cons, List.take_zero, List.drop_succ_cons, List.drop_zero]
 repeat' (first | apply And.intro | intro _)
 any_goals (first | (refine hR3 _ ?_; clear hR3) | (first | omega | (simp only [IntKind.wrap_i64] at *; omega) | (simp_all; done) | (simp_all; omega)))
 refine runs_cut 1 fun R4 hR4 => ?_
 try simp (maxSteps := 1000000) [bookV, List.take_succ_cons, List.take_zero, List.drop_succ_cons, List.drop_zero]
 refine .inl ⟨_, asked_ok i h1 h2, ?_⟩
 try simp (maxSteps := 1000000) [bookV]
 repeat' (first | apply And.intro | intro _)
 any_goals (first | (refine hR4 _ ?_; clear hR4) | (first | omega | (simp only [IntKind.wrap_i64] at *; omega) | (simp_all; done) | (simp_all; omega)))
 try simp (maxSteps := 1000000) [bookV, List.take_succ_cons, List.take_zero, List.drop_succ_cons, List.drop_zero]
 repeat' (first | apply And.intro | intro _)
 any_goals (first | (refine hK2 _ ?_; clear hK2) | (first | omega | (simp only [IntKind.wrap_i64] at *; omega) | (simp_all; done) | (simp_all; omega)))
 refine swp_seq fun K5 hK5 => ?_
 refine swp_seq fun K6 hK6 => ?_
 refine swp_region ty_ok ?_
 try simp (maxSteps := 1000000) [bookV]
 repeat' (first | apply And.intro | intro _)
 any_goals (first | (refine hK6 _ ?_; clear hK6) | (first | omega | (simp only [IntKind.wrap_i64] at *; omega) | (simp_all; done) | (simp_all; omega)))
 refine swp_if fun C7 hC7 => ?_
 try simp (maxSteps := 1000000) [bookV]
 refine hC7 _ (fun hc7 => ?_) (fun hc7 => ?_)
 ·exact absurd hc7 (by simp)
 ·clear hC7
  try simp at hc7
  refine swp_skip ?_
  try simp only [thn, inBlk]
  refine hK5 _ ?_; clear hK5
  refine swp_seq fun K8 hK8 => ?_
  refine swp_seq fun K9 hK9 => ?_
  refine swp_region ty_ok ?_
  refine runs_cut 4 fun R10 hR10 => ?_
  try simp (maxSteps := 1000000) [bookV, List.take_succ_cons, List.take_zero, List.drop_succ_cons, List.drop_zero]
  repeat' (first | apply And.intro | intro _)
  any_goals (first | (refine hR10 _ ?_; clear hR10) | (first | omega | (simp only [IntKind.wrap_i64] at *; omega) | (simp_all; done) | (simp_all; omega)))
  refine runs_cut 1 fun R11 hR11 => ?_
  try simp (maxSteps := 1000000) [bookV, List.take_succ_cons, List.take_zero, List.drop_succ_cons, List.drop_zero]
  refine .inl ⟨_, dim_ok i h1 (by omega), ?_⟩
  try simp (maxSteps := 1000000) [bookV]
  repeat' (first | apply And.intro | intro _)
  any_goals (first | (refine hR11 _ ?_; clear hR11) | (first | omega | (simp only [IntKind.wrap_i64] at *; omega) | (simp_all; done) | (simp_all; omega)))
  try simp (maxSteps := 1000000) [bookV, List.take_succ_cons, List.take_zero, List.drop_succ_cons, List.drop_zero]
  repeat' (first | apply And.intro | intro _)
  any_goals (first | (refine hK9 _ ?_; clear hK9) | (first | omega | (simp only [IntKind.wrap_i64] at *; omega) | (simp_all; done) | (simp_all; omega)))
  refine swp_if fun C12 hC12 => ?_
  try simp (maxSteps := 1000000) [bookV]
  refine hC12 _ (fun hc12 => ?_) (fun hc12 => ?_)
  ·clear hC12
   try simp at hc12
   refine swp_seq fun K13 hK13 => ?_
   refine swp_region ty_ok ?_
   try simp (maxSteps := 1000000) [bookV]
   repeat' (first | apply And.intro | intro _)
   any_goals (first | (refine hK13 _ ?_; clear hK13) | (first | omega | (simp only [IntKind.wrap_i64] at *; omega) | (simp_all; done) | (simp_all; omega)))
   refine swp_ret ?_
   simp [fnPost, Try.results16, resP, tupOf]
  ·exfalso
   have h := hc12
   simp at h
   omega

theorem rhput_nofit (i : Nat) (h1 : 1 ≤ i) (h2 : i ≤ 11) (b vs : List Int) (hd : vs.length = bDim i) (hf : hFit i vs = false) : PCall Try.prog 16 [.ro (.ints .u8 b), bookV i, .ro (.ints .i64 vs)] (.tup [.ro (.ints .u8 []), .int .i64 2]) := by
 have hFd := (hkF h1 h2).d
 have hd4 : 2 ≤ bDim i ∧ bDim i ≤ 4 := by rw [hFd]; split <;> omega
 refine pcall_body ty_ok Try.func16 rfl (by rfl) (by simp) ?_
 rw [Try.ntmps16]
 refine swp_seq fun K1 hK1 => ?_
 refine swp_region ty_ok ?_
 try simp (maxSteps := 1000000) [bookV]
 repeat' (first | apply And.intro | intro _)
 any_goals (first | (refine hK1 _ ?_; clear hK1) | (first | omega | (simp only [IntKind.wrap_i64] at *; omega) | (simp_all; done) | (simp_all; omega)))
 refine swp_seq fun K2 hK2 => ?_
 refine swp_region ty_ok ?_
 refine runs_cut 1 fun R3 hR3 => ?_
 try simp (maxSteps := 1000000) [bookV, List.take_succ_cons, List.take_zero, List.drop_succ_cons, List.drop_zero]
 repeat' (first | apply And.intro | intro _)
 any_goals (first | (refine hR3 _ ?_; clear hR3) | (first | omega | (simp only [IntKind.wrap_i64] at *; omega) | (simp_all; done) | (simp_all; omega)))
 refine runs_cut 1 fun R4 hR4 => ?_
 try simp (maxSteps := 1000000) [bookV, List.take_succ_cons, List.take_zero, List.drop_succ_cons, List.drop_zero]
 refine .inl ⟨_, asked_ok i h1 h2, ?_⟩
 try simp (maxSteps := 1000000) [bookV]
 repeat' (first | apply And.intro | intro _)
 any_goals (first | (refine hR4 _ ?_; clear hR4) | (first | omega | (simp only [IntKind.wrap_i64] at *; omega) | (simp_all; done) | (simp_all; omega)))
 try simp (maxSteps := 1000000) [bookV, List.take_succ_cons, List.take_zero, List.drop_succ_cons, List.drop_zero]
 repeat' (first | apply And.intro | intro _)
 any_goals (first | (refine hK2 _ ?_; clear hK2) | (first | omega | (simp only [IntKind.wrap_i64] at *; omega) | (simp_all; done) | (simp_all; omega)))
 refine swp_seq fun K5 hK5 => ?_
 refine swp_seq fun K6 hK6 => ?_
 refine swp_region ty_ok ?_
 try simp (maxSteps := 1000000) [bookV]
 repeat' (first | apply And.intro | intro _)
 any_goals (first | (refine hK6 _ ?_; clear hK6) | (first | omega | (simp only [IntKind.wrap_i64] at *; omega) | (simp_all; done) | (simp_all; omega)))
 refine swp_if fun C7 hC7 => ?_
 try simp (maxSteps := 1000000) [bookV]
 refine hC7 _ (fun hc7 => ?_) (fun hc7 => ?_)
 ·exact absurd hc7 (by simp)
 ·clear hC7
  try simp at hc7
  refine swp_skip ?_
  try simp only [thn, inBlk]
  refine hK5 _ ?_; clear hK5
  refine swp_seq fun K8 hK8 => ?_
  refine swp_seq fun K9 hK9 => ?_
  refine swp_region ty_ok ?_
  refine runs_cut 4 fun R10 hR10 => ?_
  try simp (maxSteps := 1000000) [bookV, List.take_succ_cons, List.take_zero, List.drop_succ_cons, List.drop_zero]
  repeat' (first | apply And.intro | intro _)
  any_goals (first | (refine hR10 _ ?_; clear hR10) | (first | omega | (simp only [IntKind.wrap_i64] at *; omega) | (simp_all; done) | (simp_all; omega)))
  refine runs_cut 1 fun R11 hR11 => ?_
  try simp (maxSteps := 1000000) [bookV, List.take_succ_cons, List.take_zero, List.drop_succ_cons, List.drop_zero]
  refine .inl ⟨_, dim_ok i h1 (by omega), ?_⟩
  try simp (maxSteps := 1000000) [bookV]
  repeat' (first | apply And.intro | intro _)
  any_goals (first | (refine hR11 _ ?_; clear hR11) | (first | omega | (simp only [IntKind.wrap_i64] at *; omega) | (simp_all; done) | (simp_all; omega)))
  try simp (maxSteps := 1000000) [bookV, List.take_succ_cons, List.take_zero, List.drop_succ_cons, List.drop_zero]
  repeat' (first | apply And.intro | intro _)
  any_goals (first | (refine hK9 _ ?_; clear hK9) | (first | omega | (simp only [IntKind.wrap_i64] at *; omega) | (simp_all; done) | (simp_all; omega)))
  refine swp_if fun C12 hC12 => ?_
  try simp (maxSteps := 1000000) [bookV]
  refine hC12 _ (fun hc12 => ?_) (fun hc12 => ?_)
  ·exfalso
   have h := hc12
   simp [hd] at h
  ·clear hC12
   try simp at hc12
   refine swp_skip ?_
   try simp only [thn, inBlk]
   refine hK8 _ ?_; clear hK8
   refine swp_seq fun K13 hK13 => ?_
   refine swp_seq fun K14 hK14 => ?_
   refine swp_region ty_ok ?_
   refine runs_cut 3 fun R15 hR15 => ?_
   try simp (maxSteps := 1000000) [bookV, hf, List.take_succ_cons, List.take_zero, List.drop_succ_cons, List.drop_zero]
   repeat' (first | apply And.intro | intro _)
   any_goals (first | (refine hR15 _ ?_; clear hR15) | (first | omega | (simp only [IntKind.wrap_i64] at *; omega) | (simp_all; done) | (simp_all; omega)))
   refine runs_cut 1 fun R16 hR16 => ?_
   try simp (maxSteps := 1000000) [bookV, hf, List.take_succ_cons, List.take_zero, List.drop_succ_cons, List.drop_zero]
   refine .inl ⟨_, rfit_ok i h1 h2 vs (by omega), ?_⟩
   try simp (maxSteps := 1000000) [bookV, hf]
   repeat' (first | apply And.intro | intro _)
   any_goals (first | (refine hR16 _ ?_; clear hR16) | (first | omega | (simp only [IntKind.wrap_i64] at *; omega) | (simp_all; done) | (simp_all; omega)))
   try simp (maxSteps := 1000000) [bookV, hf, List.take_succ_cons, List.take_zero, List.drop_succ_cons, List.drop_zero]
   repeat' (first | apply And.intro | intro _)
   any_goals (first | (refine hK14 _ ?_; clear hK14) | (first | omega | (simp only [IntKind.wrap_i64] at *; omega) | (simp_all; done) | (simp_all; omega)))
   refine swp_if fun C17 hC17 => ?_
   try simp (maxSteps := 1000000) [bookV, hf]
   refine hC17 _ (fun hc17 => ?_) (fun hc17 => ?_)
   ·clear hC17
    try simp at hc17
    refine swp_seq fun K18 hK18 => ?_
    refine swp_region ty_ok ?_
    try simp (maxSteps := 1000000) [bookV]
    repeat' (first | apply And.intro | intro _)
    any_goals (first | (refine hK18 _ ?_; clear hK18) | (first | omega | (simp only [IntKind.wrap_i64] at *; omega) | (simp_all; done) | (simp_all; omega)))
    refine swp_ret ?_
    simp [fnPost, Try.results16, resP, tupOf]
   ·exact absurd hc17 (by simp [hf])

theorem rhput_ok (i : Nat) (h1 : 1 ≤ i) (h2 : i ≤ 11) (b vs : List Int) (hd : vs.length = bDim i) (hf : hFit i vs = true) (hb : b.length ≤ 1000000) : PCall Try.prog 16 [.ro (.ints .u8 b), bookV i, .ro (.ints .i64 vs)] (.tup [.ro (.ints .u8 (b ++ huffL i vs)), .int .i64 0]) := by
 have hFd := (hkF h1 h2).d
 have hd4 : 2 ≤ bDim i ∧ bDim i ≤ 4 := by rw [hFd]; split <;> omega
 have hll := huffL_len h1 h2 hd hf
 refine pcall_body ty_ok Try.func16 rfl (by rfl) (by simp) ?_
 rw [Try.ntmps16]
 refine swp_seq fun K1 hK1 => ?_
 refine swp_region ty_ok ?_
 try simp (maxSteps := 1000000) [bookV]
 repeat' (first | apply And.intro | intro _)
 any_goals (first | (refine hK1 _ ?_; clear hK1) | (first | omega | (simp only [IntKind.wrap_i64] at *; omega) | (simp_all; done) | (simp_all; omega)))
 refine swp_seq fun K2 hK2 => ?_
 refine swp_region ty_ok ?_
 refine runs_cut 1 fun R3 hR3 => ?_
 try simp (maxSteps := 1000000) [bookV, List.take_succ_cons, List.take_zero, List.drop_succ_cons, List.drop_zero]
 repeat' (first | apply And.intro | intro _)
 any_goals (first | (refine hR3 _ ?_; clear hR3) | (first | omega | (simp only [IntKind.wrap_i64] at *; omega) | (simp_all; done) | (simp_all; omega)))
 refine runs_cut 1 fun R4 hR4 => ?_
 try simp (maxSteps := 1000000) [bookV, List.take_succ_cons, List.take_zero, List.drop_succ_cons, List.drop_zero]
 refine .inl ⟨_, asked_ok i h1 h2, ?_⟩
 try simp (maxSteps := 1000000) [bookV]
 repeat' (first | apply And.intro | intro _)
 any_goals (first | (refine hR4 _ ?_; clear hR4) | (first | omega | (simp only [IntKind.wrap_i64] at *; omega) | (simp_all; done) | (simp_all; omega)))
 try simp (maxSteps := 1000000) [bookV, List.take_succ_cons, List.take_zero, List.drop_succ_cons, List.drop_zero]
 repeat' (first | apply And.intro | intro _)
 any_goals (first | (refine hK2 _ ?_; clear hK2) | (first | omega | (simp only [IntKind.wrap_i64] at *; omega) | (simp_all; done) | (simp_all; omega)))
 refine swp_seq fun K5 hK5 => ?_
 refine swp_seq fun K6 hK6 => ?_
 refine swp_region ty_ok ?_
 try simp (maxSteps := 1000000) [bookV]
 repeat' (first | apply And.intro | intro _)
 any_goals (first | (refine hK6 _ ?_; clear hK6) | (first | omega | (simp only [IntKind.wrap_i64] at *; omega) | (simp_all; done) | (simp_all; omega)))
 refine swp_if fun C7 hC7 => ?_
 try simp (maxSteps := 1000000) [bookV]
 refine hC7 _ (fun hc7 => ?_) (fun hc7 => ?_)
 ·exact absurd hc7 (by simp)
 ·clear hC7
  try simp at hc7
  refine swp_skip ?_
  try simp only [thn, inBlk]
  refine hK5 _ ?_; clear hK5
  refine swp_seq fun K8 hK8 => ?_
  refine swp_seq fun K9 hK9 => ?_
  refine swp_region ty_ok ?_
  refine runs_cut 4 fun R10 hR10 => ?_
  try simp (maxSteps := 1000000) [bookV, List.take_succ_cons, List.take_zero, List.drop_succ_cons, List.drop_zero]
  repeat' (first | apply And.intro | intro _)
  any_goals (first | (refine hR10 _ ?_; clear hR10) | (first | omega | (simp only [IntKind.wrap_i64] at *; omega) | (simp_all; done) | (simp_all; omega)))
  refine runs_cut 1 fun R11 hR11 => ?_
  try simp (maxSteps := 1000000) [bookV, List.take_succ_cons, List.take_zero, List.drop_succ_cons, List.drop_zero]
  refine .inl ⟨_, dim_ok i h1 (by omega), ?_⟩
  try simp (maxSteps := 1000000) [bookV]
  repeat' (first | apply And.intro | intro _)
  any_goals (first | (refine hR11 _ ?_; clear hR11) | (first | omega | (simp only [IntKind.wrap_i64] at *; omega) | (simp_all; done) | (simp_all; omega)))
  try simp (maxSteps := 1000000) [bookV, List.take_succ_cons, List.take_zero, List.drop_succ_cons, List.drop_zero]
  repeat' (first | apply And.intro | intro _)
  any_goals (first | (refine hK9 _ ?_; clear hK9) | (first | omega | (simp only [IntKind.wrap_i64] at *; omega) | (simp_all; done) | (simp_all; omega)))
  refine swp_if fun C12 hC12 => ?_
  try simp (maxSteps := 1000000) [bookV]
  refine hC12 _ (fun hc12 => ?_) (fun hc12 => ?_)
  ·exfalso
   have h := hc12
   simp [hd] at h
  ·clear hC12
   try simp at hc12
   refine swp_skip ?_
   try simp only [thn, inBlk]
   refine hK8 _ ?_; clear hK8
   refine swp_seq fun K13 hK13 => ?_
   refine swp_seq fun K14 hK14 => ?_
   refine swp_region ty_ok ?_
   refine runs_cut 3 fun R15 hR15 => ?_
   try simp (maxSteps := 1000000) [bookV, hf, List.take_succ_cons, List.take_zero, List.drop_succ_cons, List.drop_zero]
   repeat' (first | apply And.intro | intro _)
   any_goals (first | (refine hR15 _ ?_; clear hR15) | (first | omega | (simp only [IntKind.wrap_i64] at *; omega) | (simp_all; done) | (simp_all; omega)))
   refine runs_cut 1 fun R16 hR16 => ?_
   try simp (maxSteps := 1000000) [bookV, hf, List.take_succ_cons, List.take_zero, List.drop_succ_cons, List.drop_zero]
   refine .inl ⟨_, rfit_ok i h1 h2 vs (by omega), ?_⟩
   try simp (maxSteps := 1000000) [bookV, hf]
   repeat' (first | apply And.intro | intro _)
   any_goals (first | (refine hR16 _ ?_; clear hR16) | (first | omega | (simp only [IntKind.wrap_i64] at *; omega) | (simp_all; done) | (simp_all; omega)))
   try simp (maxSteps := 1000000) [bookV, hf, List.take_succ_cons, List.take_zero, List.drop_succ_cons, List.drop_zero]
   repeat' (first | apply And.intro | intro _)
   any_goals (first | (refine hK14 _ ?_; clear hK14) | (first | omega | (simp only [IntKind.wrap_i64] at *; omega) | (simp_all; done) | (simp_all; omega)))
   refine swp_if fun C17 hC17 => ?_
   try simp (maxSteps := 1000000) [bookV, hf]
   refine hC17 _ (fun hc17 => ?_) (fun hc17 => ?_)
   ·exact absurd hc17 (by simp [hf])
   ·clear hC17
    try simp at hc17
    refine swp_skip ?_
    try simp only [thn, inBlk]
    refine hK13 _ ?_; clear hK13
    refine swp_seq fun K18 hK18 => ?_
    refine swp_region ty_ok ?_
    try simp (maxSteps := 1000000) [bookV]
    repeat' (first | apply And.intro | intro _)
    any_goals (first | (refine hK18 _ ?_; clear hK18) | (first | omega | (simp only [IntKind.wrap_i64] at *; omega) | (simp_all; done) | (simp_all; omega)))
    refine swp_seq fun K19 hK19 => ?_
    refine swp_region ty_ok ?_
    try simp (maxSteps := 1000000) [bookV]
    repeat' (first | apply And.intro | intro _)
    any_goals (first | (refine hK19 _ ?_; clear hK19) | (first | omega | (simp only [IntKind.wrap_i64] at *; omega) | (simp_all; done) | (simp_all; omega)))
    refine swp_seq fun K20 hK20 => ?_
    refine swp_region ty_ok ?_
    refine runs_cut 3 fun R21 hR21 => ?_
    try simp (maxSteps := 1000000) [bookV, List.take_succ_cons, List.take_zero, List.drop_succ_cons, List.drop_zero]
    repeat' (first | apply And.intro | intro _)
    any_goals (first | (refine hR21 _ ?_; clear hR21) | (first | omega | (simp only [IntKind.wrap_i64] at *; omega) | (simp_all; done) | (simp_all; omega)))
    refine runs_cut 1 fun R22 hR22 => ?_
    try simp (maxSteps := 1000000) [bookV, List.take_succ_cons, List.take_zero, List.drop_succ_cons, List.drop_zero]
    refine .inl ⟨_, rhbits_ok i h1 h2 vs hd hf, ?_⟩
    try simp (maxSteps := 1000000) [bookV]
    repeat' (first | apply And.intro | intro _)
    any_goals (first | (refine hR22 _ ?_; clear hR22) | (first | omega | (simp only [IntKind.wrap_i64] at *; omega) | (simp_all; done) | (simp_all; omega)))
    try simp (maxSteps := 1000000) [bookV, List.take_succ_cons, List.take_zero, List.drop_succ_cons, List.drop_zero]
    repeat' (first | apply And.intro | intro _)
    any_goals (first | (refine hK20 _ ?_; clear hK20) | (first | omega | (simp only [IntKind.wrap_i64] at *; omega) | (simp_all; done) | (simp_all; omega)))
    refine swp_ret ?_
    simp [fnPost, Try.results16, resP, tupOf]

theorem rhcost_ok (id p : Int) (es rs vs x : List Int) (e : Int) (hx : x.length ≤ 140737488355328) (hput : PCall Try.prog 16 [.ro (.ints .u8 []), .agg [.int .i64 id, .int .i64 p, .ro (.ints .i64 es), .ro (.ints .i64 rs)], .ro (.ints .i64 vs)] (.tup [.ro (.ints .u8 x), .int .i64 e])) : PCall Try.prog 20 [.agg [.int .i64 id, .int .i64 p, .ro (.ints .i64 es), .ro (.ints .i64 rs)], .ro (.ints .i64 vs)] (.tup [.int .i64 x.length, .int .i64 e]) := by
 refine pcall_body ty_ok Try.func20 rfl (by rfl) (by simp) ?_
 rw [Try.ntmps20]
 refine swp_seq fun K1 hK1 => ?_
 refine swp_region ty_ok ?_
 try simp (maxSteps := 1000000)
 repeat' (first | apply And.intro | intro _)
 any_goals (first | (refine hK1 _ ?_; clear hK1) | (first | omega | (simp only [IntKind.wrap_i64] at *; omega) | (simp_all; done) | (simp_all; omega)))
 refine swp_seq fun K2 hK2 => ?_
 refine swp_region ty_ok ?_
 refine runs_cut 2 fun R3 hR3 => ?_
 try simp (maxSteps := 1000000) [List.take_succ_cons, List.take_zero, List.drop_succ_cons, List.drop_zero]
 repeat' (first | apply And.intro | intro _)
 any_goals (first | (refine hR3 _ ?_; clear hR3) | (first | omega | (simp only [IntKind.wrap_i64] at *; omega) | (simp_all; done) | (simp_all; omega)))
 refine runs_cut 1 fun R4 hR4 => ?_
 try simp (maxSteps := 1000000) [List.take_succ_cons, List.take_zero, List.drop_succ_cons, List.drop_zero]
 refine .inl ⟨_, hput, ?_⟩
 try simp (maxSteps := 1000000)
 repeat' (first | apply And.intro | intro _)
 any_goals (first | (refine hR4 _ ?_; clear hR4) | (first | omega | (simp only [IntKind.wrap_i64] at *; omega) | (simp_all; done) | (simp_all; omega)))
 try simp (maxSteps := 1000000) [List.take_succ_cons, List.take_zero, List.drop_succ_cons, List.drop_zero]
 repeat' (first | apply And.intro | intro _)
 any_goals (first | (refine hK2 _ ?_; clear hK2) | (first | omega | (simp only [IntKind.wrap_i64] at *; omega) | (simp_all; done) | (simp_all; omega)))
 refine swp_seq fun K5 hK5 => ?_
 refine swp_region ty_ok ?_
 try simp (maxSteps := 1000000)
 repeat' (first | apply And.intro | intro _)
 any_goals (first | (refine hK5 _ ?_; clear hK5) | (first | omega | (simp only [IntKind.wrap_i64] at *; omega) | (simp_all; done) | (simp_all; omega)))
 refine swp_ret ?_
 simp [fnPost, Try.results20, resP, tupOf]

end Go.Proofs.Ytgheplondkoedaa

