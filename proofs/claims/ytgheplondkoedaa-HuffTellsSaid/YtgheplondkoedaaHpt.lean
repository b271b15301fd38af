import Derived.Test.YtgheplondkoedaaWf
import Derived.Test.YtgheplondkoedaaTyh
import Derived.Test.YtgheplondkoedaaBkq
import Derived.Test.YtgheplondkoedaaHsrt
import Derived.Test.YtgheplondkoedaaHbk
import Derived.Test.YtgheplondkoedaaHbk2
import Derived.Test.YtgheplondkoedaaHbk3
import Derived.Test.YtgheplondkoedaaHbits
import Derived.Test.YtgheplondkoedaaHrd
import Derived.Test.YtgheplondkoedaaHrdq
import Derived.Test.YtgheplondkoedaaHbits2
import Derived.Test.YtgheplondkoedaaHbk4
import Derived.Test.YtgheplondkoedaaHbk5
import Derived.Test.YtgheplondkoedaaHbk6
import Derived.Test.YtgheplondkoedaaHbk8
import Derived.Test.YtgheplondkoedaaHbk9
import Derived.Test.YtgheplondkoedaaHgrow
import Derived.Test.YtgheplondkoedaaHst
import Derived.Test.YtgheplondkoedaaHrep
import Derived.Test.YtgheplondkoedaaHputh
import Derived.Test.YtgheplondkoedaaHft
namespace Go.Proofs.Ytgheplondkoedaa
set_option linter.unusedVariables false
set_option linter.unusedSimpArgs false
set_option maxRecDepth 10000
open Go Go.Pv

open Go.RowKit
def hT1 (i : Nat) (v : Int) : Int := if i = 11 ∧ 16 ≤ v.natAbs then 16 else v.natAbs
def hS1 (v : Int) : List Int := if v = 0 then [] else [if v < 0 then 1 else 0]
def hM (v : Int) : Nat := Lib.bitLen v.natAbs - 5
def hE1 (i : Nat) (v : Int) : List Int := if i = 11 ∧ 16 ≤ v.natAbs then List.replicate (hM v) 1 ++ (0 :: bitsOf (v.natAbs % 2 ^ (hM v + 4)) (hM v + 4)) else []
def hTold (i : Nat) (vs : List Int) : List Int := vs.map (hT1 i)
def hSg (vs : List Int) : List Int := vs.flatMap hS1
def hEs (i : Nat) (vs : List Int) : List Int := vs.flatMap (hE1 i)
theorem tak1 {vs : List Int} {k : Nat} (h : k < vs.length) : vs.take (k + 1) = vs.take k ++ [vs[k]?.getD 0] := take_snocI h
theorem told_snoc {i : Nat} {vs : List Int} {k : Nat} (h : k < vs.length) : hTold i (vs.take (k + 1)) = hTold i (vs.take k) ++ [hT1 i (vs[k]?.getD 0)] := by
 rw [tak1 h]; simp [hTold]
theorem sg_snoc {vs : List Int} {k : Nat} (h : k < vs.length) : hSg (vs.take (k + 1)) = hSg (vs.take k) ++ hS1 (vs[k]?.getD 0) := by
 rw [tak1 h]; simp [hSg]
theorem es_snoc {i : Nat} {vs : List Int} {k : Nat} (h : k < vs.length) : hEs i (vs.take (k + 1)) = hEs i (vs.take k) ++ hE1 i (vs[k]?.getD 0) := by
 rw [tak1 h]; simp [hEs]
theorem told_len (i : Nat) (vs : List Int) : (hTold i vs).length = vs.length := by simp [hTold]
theorem sg_len (vs : List Int) : (hSg vs).length ≤ vs.length := by
 induction vs with
 | nil => exact Nat.le_refl _
 | cons v r ih =>
  show (hS1 v ++ hSg r).length ≤ r.length + 1
  have : (hS1 v).length ≤ 1 := by unfold hS1; split <;> simp
  rw [List.length_append]
  omega
structure EsF (v : Int) : Prop where
 l : Lib.bitLen v.natAbs ≤ 13
 g : 16 ≤ v.natAbs → 5 ≤ Lib.bitLen v.natAbs
theorem esF {v : Int} (h : -8191 ≤ v ∧ v ≤ 8191) : EsF v := ⟨Lib.bitLen_le _ 13 (by omega) (by omega), fun h16 => by
 by_cases hx : Lib.bitLen v.natAbs ≤ 4
 ·exfalso
  have h5 := Lib.bitLen_shift 4 v.natAbs h16 (by omega)
  have h6 : 1 ≤ Lib.bitLen (v.natAbs / 2 ^ 4) := by
   have hp : v.natAbs / 2 ^ 4 ≠ 0 := by have : 1 ≤ v.natAbs / 2 ^ 4 := (Nat.one_le_div_iff (by decide)).2 h16; omega
   have := Lib.bitLen_half (v.natAbs / 2 ^ 4) hp (by have := Nat.div_le_self v.natAbs (2 ^ 4); omega)
   omega
  omega
 ·omega⟩
theorem e1_len {i : Nat} {v : Int} (h : -8191 ≤ v ∧ v ≤ 8191) : (hE1 i v).length ≤ 21 := by
 have := (esF h).l
 unfold hE1
 split
 ·simp [bitsOf_len]
  unfold hM
  omega
 ·simp
theorem fit_bd {i : Nat} {vs : List Int} (h1 : 1 ≤ i) (h2 : i ≤ 11) (hf : hFit i vs = true) {v : Int} (hv : v ∈ vs) : -hMost i ≤ v ∧ v ≤ hMost i ∧ -8191 ≤ v ∧ v ≤ 8191 := by
 have := List.all_eq_true.1 hf v hv
 unfold fitV at this
 have := of_decide_eq_true this
 have := (hkF h1 h2).m
 omega
theorem es_len {i : Nat} {vs : List Int} (h : ∀ v ∈ vs, -8191 ≤ v ∧ v ≤ 8191) : (hEs i vs).length ≤ 21 * vs.length := by
 induction vs with
 | nil => exact Nat.le_refl _
 | cons v r ih =>
  show (hE1 i v ++ hEs i r).length ≤ 21 * (r.length + 1)
  have h1 := e1_len (i := i) (h v (by simp))
  have h2 := ih fun w hw => h w (by simp [hw])
  rw [List.length_append]
  omega
/-- Values that fit, without their signs, are an entry's. -/
theorem told_ent {i : Nat} {vs : List Int} (h1 : 1 ≤ i) (h2 : i ≤ 11) (hd : vs.length = bDim i) (hf : hFit i vs = true) (hs : hSig i = false) : entE i (hTold i vs) = 0 ∧ entV i (hTold i vs) = (entN i (hTold i vs) : Int) ∧ entN i (hTold i vs) < bMany i := by
 have hF := hkF h1 h2
 obtain ⟨u1, u2, u3⟩ := hF.u hs
 have hall : ∀ v ∈ hTold i vs, inR i v = true := fun v hv => by
  obtain ⟨w, hw, rfl⟩ := List.mem_map.1 hv
  have := fit_bd h1 h2 hf hw
  unfold inR hT1
  rw [decide_eq_true_eq, u1]
  by_cases h11 : i = 11
  ·have := u3 h11
   split <;> omega
  ·have := u2 h11
   rw [if_neg (by omega)]
   omega
 obtain ⟨a, b⟩ := entE_fin (i := i) (vs := hTold i vs) (by rw [told_len]; exact hd) hall
 exact ⟨a, b, (entV_ok (bk_ok h1 (by omega)) a).1⟩
theorem sig_ent {i : Nat} {vs : List Int} (h1 : 1 ≤ i) (h2 : i ≤ 11) (hd : vs.length = bDim i) (hf : hFit i vs = true) (hs : hSig i = true) : entE i vs = 0 ∧ entV i vs = (entN i vs : Int) ∧ entN i vs < bMany i := by
 have hF := hkF h1 h2
 obtain ⟨u1, u2, u3⟩ := hF.s hs
 have hall : ∀ v ∈ vs, inR i v = true := fun v hv => by
  have := fit_bd h1 h2 hf hv
  unfold inR
  rw [decide_eq_true_eq, u1, u2]
  omega
 obtain ⟨a, b⟩ := entE_fin (i := i) (vs := vs) hd hall
 exact ⟨a, b, (entV_ok (bk_ok h1 (by omega)) a).1⟩
theorem maskF {n m : Nat} (hn : n ≤ 8191) (hm : m ≤ 8) : IntKind.i64.wrap ((n % 2 ^ IntKind.i64.bits &&& (IntKind.i64.wrap ((2 : Int) ^ (m + 4) - 1) % 2 ^ IntKind.i64.bits).toNat : Nat) : Int) = ((n % 2 ^ (m + 4) : Nat) : Int) := by
 have ec : (2 : Int) ^ (m + 4) = ((2 ^ (m + 4) : Nat) : Int) := by push_cast; rfl
 rw [ec]
 have hp : 2 ^ (m + 4) ≤ 2 ^ 12 := Nat.pow_le_pow_right (by omega) (by omega)
 have hp0 : 0 < 2 ^ (m + 4) := Nat.pow_pos (by omega)
 have e : (2 : Nat) ^ IntKind.i64.bits = 18446744073709551616 := rfl
 have e2 : (2 : Int) ^ IntKind.i64.bits = 18446744073709551616 := rfl
 obtain ⟨P, hP⟩ : ∃ P, 2 ^ (m + 4) = P := ⟨_, rfl⟩
 have hand := Nat.and_two_pow_sub_one_eq_mod n (m + 4)
 rw [hP] at hp hp0 hand ⊢
 rw [w64 (n := ((P : Nat) : Int) - 1) (by omega), e, e2, Nat.mod_eq_of_lt (by omega), show (((P : Nat) : Int) - 1) % 18446744073709551616 = ((P - 1 : Nat) : Int) by omega, Int.toNat_natCast, hand]
 have : n % P < P := Nat.mod_lt _ hp0
 rw [w64 (by omega)]
theorem shlF {m : Nat} (h : m ≤ 8) : IntKind.i64.wrap (2 ^ min (m + 4) 64) = ((2 ^ (m + 4) : Nat) : Int) ∧ ((2 ^ (m + 4) : Nat) : Int) ≤ 4096 := by
 have : ∀ n : Fin 9, IntKind.i64.wrap (2 ^ min (n.val + 4) 64) = ((2 ^ (n.val + 4) : Nat) : Int) ∧ ((2 ^ (n.val + 4) : Nat) : Int) ≤ 4096 := by decide
 exact this ⟨m, by omega⟩

theorem put_hL (xs ys : List Int) (L : Nat) (num size : Int) (a k : Nat) (hL : xs.length = L) (hy : putL xs num size = ys) (hm : L ≤ 17592186043000) (hn : -9223372036854775808 ≤ num ∧ num ≤ 9223372036854775807) :
  HCall Try.prog 50 [.sl a 0 L L, .int .i64 num, .int .i64 size] [(a, some ⟨.ints .u8 xs, false, 5⟩)] k (.tup [.sl k 0 ys.length ys.length, .int .i64 (putE num size)]) [(k, some ⟨.ints .u8 ys, false, 5⟩)] := by
 subst hL hy
 exact put_h xs num size a k hm hn
theorem cc4 (b C s e : List Int) (hb : b.length ≤ 1000000) (hC : 1 ≤ C.length ∧ C.length ≤ 100) (hs : s.length ≤ 100) (he : e.length ≤ 100) : PCall Try.prog 46 [.ro (.rows 1 [[.ro (.ints .u8 b)], [.ro (.ints .u8 C)], [.ro (.ints .u8 s)], [.ro (.ints .u8 e)]])] (.ro (.ints .u8 (b ++ C ++ s ++ e))) := by
 have := concat_ok [b, C, s, e] (by simp [cat]; omega) (by simp)
 have e : cat [b, C, s, e] = b ++ C ++ s ++ e := by simp [cat]
 rw [e] at this
 exact this

attribute [local simp] runs gd step1 need evu un opnds opv ev cst cst1 cstL getT getH putT onL nxt argT cellsOf PV.one thn inBlk jmp fldP ldP ldC live Cells.len Cells.get Cells.w sug ldv bin eqF eq1 ops2 sh2 binv Tk.agg stC apC rdS apS cpC cpS mvL zp argsP idx fillP toInts chunks mkC ixS ixA oidx slP sl0 slA optL List.append mxF bltn frzA frz frzL frz1 pur1 Cells.pur PV.scal scal1 runD rdO PV.ids id1 zids ety Eff.on cnd minb and1b ifmax ifmin mxv sugI strv w0 w1 w2 wm1
set_option maxHeartbeats 8000000 in
theorem putU_ok_n (i : Nat) (h1 : 1 ≤ i) (h2 : i ≤ 11) (p : Int) (es rs : List Int) (b vs C : List Int) (E : Int) (hd : vs.length = bDim i) (hf : hFit i vs = true) (hcode : PCall Try.prog 45 [.agg [.int .i64 (i : Nat), .int .i64 p, .ro (.ints .i64 es), .ro (.ints .i64 rs)], .int .i64 (entN i (hTold i vs) : Nat)] (.tup [.ro (.ints .u8 C), .int .i64 E])) (hE : E = 0) (hC : 1 ≤ C.length ∧ C.length ≤ 100) (hb : b.length ≤ 1000000) (hs : hSig i = false) (h11 : ¬ i = 11)  : PCall Try.prog 15 [.ro (.ints .u8 b), .agg [.int .i64 (i : Nat), .int .i64 p, .ro (.ints .i64 es), .ro (.ints .i64 rs)], .ro (.ints .i64 vs)] (.tup [.ro (.ints .u8 (b ++ C ++ hSg vs ++ hEs i vs)), .int .i64 0]) := by
 have hF := hkF h1 h2
 have hFd := hF.d
 have hvl : vs.length ≤ 4 := by rw [hd, hFd]; split <;> omega
 subst hE
 obtain ⟨k1, k2, k3⟩ := told_ent h1 h2 hd hf hs
 have hent := ent_ok i h1 (by omega) (hTold i vs)
 rw [k1, k2] at hent
 refine pcall_body ty_ok Try.func15 rfl (by rfl) (by simp) ?_
 rw [Try.ntmps15]
 refine swp_seq fun K1 hK1 => ?_
 refine swp_region ty_ok ?_
 try simp (maxSteps := 1000000)
 repeat' (first | apply And.intro | intro _)
 any_goals (first | (refine hK1 _ ?_; clear hK1) | (first | omega | (simp only [IntKind.wrap_i64] at *; omega) | (simp_all; done) | (simp_all; omega)))
 refine swp_seq fun K2 hK2 => ?_
 refine swp_region ty_ok ?_
 refine runs_cut 3 fun R3 hR3 => ?_
 try simp (maxSteps := 1000000) [List.take_succ_cons, List.take_zero, List.drop_succ_cons, List.drop_zero]
 repeat' (first | apply And.intro | intro _)
 any_goals (first | (refine hR3 _ ?_; clear hR3) | (first | omega | (simp only [IntKind.wrap_i64] at *; omega) | (simp_all; done) | (simp_all; omega)))
 refine runs_cut 1 fun R4 hR4 => ?_
 try simp (maxSteps := 1000000) [List.take_succ_cons, List.take_zero, List.drop_succ_cons, List.drop_zero]
 refine .inl ⟨_, fits_ok i h1 h2 vs hd, ?_⟩
 try simp (maxSteps := 1000000)
 repeat' (first | apply And.intro | intro _)
 any_goals (first | (refine hR4 _ ?_; clear hR4) | (first | omega | (simp only [IntKind.wrap_i64] at *; omega) | (simp_all; done) | (simp_all; omega)))
 try simp (maxSteps := 1000000) [List.take_succ_cons, List.take_zero, List.drop_succ_cons, List.drop_zero]
 repeat' (first | apply And.intro | intro _)
 any_goals (first | (refine hK2 _ ?_; clear hK2) | (first | omega | (simp only [IntKind.wrap_i64] at *; omega) | (simp_all; done) | (simp_all; omega)))
 refine swp_seq fun K5 hK5 => ?_
 refine swp_seq fun K6 hK6 => ?_
 refine swp_region ty_ok ?_
 try simp (maxSteps := 1000000) [hf]
 repeat' (first | apply And.intro | intro _)
 any_goals (first | (refine hK6 _ ?_; clear hK6) | (first | omega | (simp only [IntKind.wrap_i64] at *; omega) | (simp_all; done) | (simp_all; omega)))
 refine swp_if fun C7 hC7 => ?_
 try simp (maxSteps := 1000000) [hf]
 refine hC7 _ (fun hc7 => ?_) (fun hc7 => ?_)
 ·exact absurd hc7 (by simp [hf])
 ·clear hC7
  try simp at hc7
  refine swp_skip ?_
  try simp only [thn, inBlk]
  refine hK5 _ ?_; clear hK5
  refine swp_seq fun K8 hK8 => ?_
  refine swp_seq fun K9 hK9 => ?_
  refine swp_region ty_ok ?_
  refine runs_cut 2 fun R10 hR10 => ?_
  try simp (maxSteps := 1000000) [hs, List.take_succ_cons, List.take_zero, List.drop_succ_cons, List.drop_zero]
  repeat' (first | apply And.intro | intro _)
  any_goals (first | (refine hR10 _ ?_; clear hR10) | (first | omega | (simp only [IntKind.wrap_i64] at *; omega) | (simp_all; done) | (simp_all; omega)))
  try simp (maxSteps := 1000000) [hs, List.take_succ_cons, List.take_zero, List.drop_succ_cons, List.drop_zero]
  refine .inl ⟨_, signed_ok i, ?_⟩
  try simp (maxSteps := 1000000) [hs]
  repeat' (first | apply And.intro | intro _)
  any_goals (first | (refine hK9 _ ?_; clear hK9) | (first | omega | (simp only [IntKind.wrap_i64] at *; omega) | (simp_all; done) | (simp_all; omega)))
  refine swp_if fun C11 hC11 => ?_
  try simp (maxSteps := 1000000) [hs]
  refine hC11 _ (fun hc11 => ?_) (fun hc11 => ?_)
  ·exact absurd hc11 (by simp [hs])
  ·clear hC11
   try simp at hc11
   refine swp_skip ?_
   try simp only [thn, inBlk]
   refine hK8 _ ?_; clear hK8
   refine swp_seq fun K12 hK12 => ?_
   refine swp_region ty_ok ?_
   try simp (maxSteps := 1000000)
   repeat' (first | apply And.intro | intro _)
   any_goals (first | (refine hK12 _ ?_; clear hK12) | (first | omega | (simp only [IntKind.wrap_i64] at *; omega) | (simp_all; done) | (simp_all; omega)))
   refine swp_seq fun K13 hK13 => ?_
   refine swp_region ty_ok ?_
   try simp (maxSteps := 1000000)
   repeat' (first | apply And.intro | intro _)
   any_goals (first | (refine hK13 _ ?_; clear hK13) | (first | omega | (simp only [IntKind.wrap_i64] at *; omega) | (simp_all; done) | (simp_all; omega)))
   refine swp_seq fun K14 hK14 => ?_
   refine swp_seq fun K15 hK15 => ?_
   refine swp_region ty_ok ?_
   try simp (maxSteps := 1000000)
   repeat' (first | apply And.intro | intro _)
   any_goals (first | (refine hK15 _ ?_; clear hK15) | (first | omega | (simp only [IntKind.wrap_i64] at *; omega) | (simp_all; done) | (simp_all; omega)))
   refine swp_block ?_
   refine swp_own 15 3 (by simp [getT]; rfl) rfl ?_
   refine swp_own 16 5 (by simp [getT]; rfl) rfl ?_
   refine swp_own 17 5 (by simp [getT]; rfl) rfl ?_
   refine swp_loop 4 (fun m_ s_ => ∃ (k : Nat), (k ≤ vs.length) ∧ s_ = ⟨[(0, .ro (.ints .u8 b)), (4, .ptr 0 0 0 1), (15, .sl 1 0 k k), (16, .sl 2 0 (hSg (vs.take k)).length (hSg (vs.take k)).length), (17, .sl 3 0 (hEs i (vs.take k)).length (hEs i (vs.take k)).length), (69, .ro (.ints .i64 vs)), (70, .int .i64 vs.length), (71, .int .i64 (k : Nat))], [(0, some ⟨.rows 4 [[.int .i64 (i : Nat), .int .i64 p, .ro (.ints .i64 es), .ro (.ints .i64 rs)]], true, 25⟩), (1, some ⟨.ints .i64 (hTold i (vs.take k)), false, 3⟩), (2, some ⟨.ints .u8 (hSg (vs.take k)), false, 5⟩), (3, some ⟨.ints .u8 (hEs i (vs.take k)), false, 5⟩)], 4⟩ ∧ m_ = vs.length - k) _ ⟨[(0, .ro (.ints .u8 b)), (4, .ptr 0 0 0 1), (15, .sl 1 0 0 0), (16, .sl 2 0 (hSg (vs.take 0)).length (hSg (vs.take 0)).length), (17, .sl 3 0 (hEs i (vs.take 0)).length (hEs i (vs.take 0)).length), (69, .ro (.ints .i64 vs)), (70, .int .i64 vs.length), (71, .int .i64 (0 : Nat))], [(0, some ⟨.rows 4 [[.int .i64 (i : Nat), .int .i64 p, .ro (.ints .i64 es), .ro (.ints .i64 rs)]], true, 25⟩), (1, some ⟨.ints .i64 (hTold i (vs.take 0)), false, 3⟩), (2, some ⟨.ints .u8 (hSg (vs.take 0)), false, 5⟩), (3, some ⟨.ints .u8 (hEs i (vs.take 0)), false, 5⟩)], 4⟩ ⟨by simp [getT, PV.lo, lo1, hTold, hSg, hEs], by simp [getH, Blk.lo, Cells.lo, lo1, hTold, hSg, hEs], rfl, by omega⟩ ⟨(0), by (first | omega | (simp only [IntKind.wrap_i64] at *; omega) | (simp_all; done) | (simp_all; omega)), rfl, rfl⟩ ?_
   rintro m_ s_ ⟨k, hL16_0, rfl, rfl⟩ KL16 hL16
   have hkw := wnext (i := k) (by omega)
   refine swp_seq fun K17 hK17 => ?_
   refine swp_region ty_ok ?_
   try simp (maxSteps := 1000000)
   repeat' (first | apply And.intro | intro _)
   any_goals (first | (refine hK17 _ ?_; clear hK17) | (first | omega | (simp only [IntKind.wrap_i64] at *; omega) | (simp_all; done) | (simp_all; omega)))
   refine swp_seq fun K18 hK18 => ?_
   refine swp_if fun C19 hC19 => ?_
   try simp (maxSteps := 1000000)
   refine hC19 _ (fun hc19 => ?_) (fun hc19 => ?_)
   ·clear hC19
    try simp at hc19
    refine swp_skip ?_
    try simp only [thn, inBlk]
    refine hK18 _ ?_; clear hK18
    refine swp_seq fun K20 hK20 => ?_
    refine swp_block ?_
    refine swp_seq fun K21 hK21 => ?_
    have hkl : k < vs.length := (by have h := hc19; omega)
    obtain ⟨v, hv⟩ : ∃ v, vs[k]?.getD 0 = v := ⟨_, rfl⟩
    have hmem : v ∈ vs := by rw [← hv, List.getElem?_eq_getElem hkl]; exact List.getElem_mem hkl
    have hvb := fit_bd h1 h2 hf hmem
    have ht := told_snoc (i := i) hkl
    have hsn := sg_snoc hkl
    have hen := es_snoc (i := i) hkl
    rw [hv] at ht hsn hen
    have htl : (hTold i (vs.take (k + 1))).length = k + 1 := by rw [told_len, List.length_take]; omega
    have hslk : (hSg (vs.take k)).length ≤ 4 := by have := sg_len (vs.take k); rw [List.length_take] at this; omega
    have helk : (hEs i (vs.take k)).length ≤ 84 := by have := es_len (i := i) (vs := vs.take k) (fun w hw => ⟨(fit_bd h1 h2 hf (List.mem_of_mem_take hw)).2.2.1, (fit_bd h1 h2 hf (List.mem_of_mem_take hw)).2.2.2⟩); rw [List.length_take] at this; omega
    have hsl : (hSg (vs.take (k + 1))).length = (hSg (vs.take k)).length + (hS1 v).length := by rw [hsn, List.length_append]
    have hel : (hEs i (vs.take (k + 1))).length = (hEs i (vs.take k)).length + (hE1 i v).length := by rw [hen, List.length_append]
    have htlk : (hTold i (vs.take k)).length = k := by rw [told_len, List.length_take]; omega
    refine swp_region ty_ok ?_
    try simp (maxSteps := 1000000)
    repeat' (first | apply And.intro | intro _)
    any_goals (first | (refine hK21 _ ?_; clear hK21) | (first | omega | (simp only [IntKind.wrap_i64] at *; omega) | (simp_all; done) | (simp_all; omega)))
    refine swp_seq fun K22 hK22 => ?_
    refine swp_region ty_ok ?_
    refine runs_cut 1 fun R23 hR23 => ?_
    try simp (maxSteps := 1000000) [hv, List.take_succ_cons, List.take_zero, List.drop_succ_cons, List.drop_zero]
    repeat' (first | apply And.intro | intro _)
    any_goals (first | (refine hR23 _ ?_; clear hR23) | (first | omega | (simp only [IntKind.wrap_i64] at *; omega) | (simp_all; done) | (simp_all; omega)))
    refine runs_cut 1 fun R24 hR24 => ?_
    try simp (maxSteps := 1000000) [hv, List.take_succ_cons, List.take_zero, List.drop_succ_cons, List.drop_zero]
    refine .inl ⟨_, hsize_ok v (by omega), ?_⟩
    try simp (maxSteps := 1000000) [hv]
    repeat' (first | apply And.intro | intro _)
    any_goals (first | (refine hR24 _ ?_; clear hR24) | (first | omega | (simp only [IntKind.wrap_i64] at *; omega) | (simp_all; done) | (simp_all; omega)))
    try simp (maxSteps := 1000000) [hv, List.take_succ_cons, List.take_zero, List.drop_succ_cons, List.drop_zero]
    repeat' (first | apply And.intro | intro _)
    any_goals (first | (refine hK22 _ ?_; clear hK22) | (first | omega | (simp only [IntKind.wrap_i64] at *; omega) | (simp_all; done) | (simp_all; omega)))
    refine swp_seq fun K25 hK25 => ?_
    refine swp_seq fun K26 hK26 => ?_
    refine swp_region ty_ok ?_
    try simp (maxSteps := 1000000)
    repeat' (first | apply And.intro | intro _)
    any_goals (first | (refine hK26 _ ?_; clear hK26) | (first | omega | (simp only [IntKind.wrap_i64] at *; omega) | (simp_all; done) | (simp_all; omega)))
    refine swp_if fun C27 hC27 => ?_
    try simp (maxSteps := 1000000)
    refine hC27 _ (fun hc27 => ?_) (fun hc27 => ?_)
    ·clear hC27
     try simp at hc27
     have hv0 : ¬ v = 0 := hc27
     have hS : hS1 v = [if v < 0 then 1 else 0] := by unfold hS1; rw [if_neg hv0]
     have hshr : IntKind.u8.wrap ((IntKind.u64.wrap v).fdiv (2 ^ min 63 IntKind.u64.bits)) = if v < 0 then 1 else 0 := by
      have e0 : ((2 : Int) ^ min 63 IntKind.u64.bits) = 9223372036854775808 := rfl
      rw [e0]
      by_cases hn : v < 0
      ·rw [if_pos hn]
       have e1 : IntKind.u64.wrap v = v + 18446744073709551616 := by show v % 18446744073709551616 = _; omega
       rw [e1, Int.fdiv_eq_ediv_of_nonneg _ (by decide), show (v + 18446744073709551616) / 9223372036854775808 = 1 by omega]; rfl
      ·rw [if_neg hn]
       have e1 : IntKind.u64.wrap v = v := by show v % 18446744073709551616 = _; omega
       rw [e1, Int.fdiv_eq_ediv_of_nonneg _ (by decide), show v / 9223372036854775808 = 0 by omega]; rfl
     refine swp_region ty_ok ?_
     refine runs_cut 5 fun R28 hR28 => ?_
     try simp (maxSteps := 1000000) [hshr, List.take_succ_cons, List.take_zero, List.drop_succ_cons, List.drop_zero]
     repeat' (first | apply And.intro | intro _)
     any_goals (first | (refine hR28 _ ?_; clear hR28) | (first | omega | (simp only [IntKind.wrap_i64] at *; omega) | (simp_all; done) | (simp_all; omega)))
     refine runs_cut 1 fun R29 hR29 => ?_
     try simp (maxSteps := 1000000) [hshr, List.take_succ_cons, List.take_zero, List.drop_succ_cons, List.drop_zero]
     repeat' (first | apply And.intro | intro _)
     any_goals (first | (refine Or.inl (hR29 _ ?_); clear hR29) | (first | omega | (simp only [IntKind.wrap_i64] at *; omega) | (simp_all; done) | (simp_all; omega)))
     try simp (maxSteps := 1000000) [hshr, List.take_succ_cons, List.take_zero, List.drop_succ_cons, List.drop_zero]
     repeat' (first | apply And.intro | intro _)
     any_goals (first | (refine hK25 _ ?_; clear hK25) | (first | omega | (simp only [IntKind.wrap_i64] at *; omega) | (simp_all; done) | (simp_all; omega)))
     refine swp_seq fun K30 hK30 => ?_
     refine swp_seq fun K31 hK31 => ?_
     have hS0 : v = 0 → hS1 v = [] := fun h => by unfold hS1; rw [if_pos h]
     refine swp_region ty_ok ?_
     try simp (maxSteps := 1000000)
     repeat' (first | apply And.intro | intro _)
     any_goals (first | (refine hK31 _ ?_; clear hK31) | (first | omega | (simp only [IntKind.wrap_i64] at *; omega) | (simp_all; done) | (simp_all; omega)))
     refine swp_if fun C32 hC32 => ?_
     try simp (maxSteps := 1000000)
     refine hC32 _ (fun hc32 => ?_) (fun hc32 => ?_)
     ·exfalso
      have h := hc32
      first | (simp at h; omega) | (simp [h11] at h; done)
     ·clear hC32
      try simp at hc32
      refine swp_skip ?_
      try simp only [thn, inBlk]
      refine hK30 _ ?_; clear hK30
      first | (have hTn : hT1 i v = v.natAbs := by unfold hT1; rw [if_neg (by omega)]) | skip
      first | (have hEn : hE1 i v = [] := by unfold hE1; rw [if_neg (by omega)]) | skip
      refine swp_region ty_ok ?_
      refine runs_cut 2 fun R33 hR33 => ?_
      try simp (maxSteps := 1000000) [List.take_succ_cons, List.take_zero, List.drop_succ_cons, List.drop_zero]
      repeat' (first | apply And.intro | intro _)
      any_goals (first | (refine hR33 _ ?_; clear hR33) | (first | omega | (simp only [IntKind.wrap_i64] at *; omega) | (simp_all; done) | (simp_all; omega)))
      refine runs_cut 1 fun R34 hR34 => ?_
      try simp (maxSteps := 1000000) [List.take_succ_cons, List.take_zero, List.drop_succ_cons, List.drop_zero]
      repeat' (first | apply And.intro | intro _)
      any_goals (first | (refine Or.inl (hR34 _ ?_); clear hR34) | (first | omega | (simp only [IntKind.wrap_i64] at *; omega) | (simp_all; done) | (simp_all; omega)))
      try simp (maxSteps := 1000000) [List.take_succ_cons, List.take_zero, List.drop_succ_cons, List.drop_zero]
      repeat' (first | apply And.intro | intro _)
      any_goals (first | (refine hK20 _ ?_; clear hK20) | (first | omega | (simp only [IntKind.wrap_i64] at *; omega) | (simp_all; done) | (simp_all; omega)))
      refine swp_region ty_ok ?_
      try simp (maxSteps := 1000000)
      repeat' apply And.intro
      any_goals (try omega)
      refine hL16 _ ⟨[(0, .ro (.ints .u8 b)), (4, .ptr 0 0 0 1), (15, .sl 1 0 (k + 1) (k + 1)), (16, .sl 2 0 (hSg (vs.take (k + 1))).length (hSg (vs.take (k + 1))).length), (17, .sl 3 0 (hEs i (vs.take (k + 1))).length (hEs i (vs.take (k + 1))).length), (69, .ro (.ints .i64 vs)), (70, .int .i64 vs.length), (71, .int .i64 ((k + 1) : Nat))], [(0, some ⟨.rows 4 [[.int .i64 (i : Nat), .int .i64 p, .ro (.ints .i64 es), .ro (.ints .i64 rs)]], true, 25⟩), (1, some ⟨.ints .i64 (hTold i (vs.take (k + 1))), false, 3⟩), (2, some ⟨.ints .u8 (hSg (vs.take (k + 1))), false, 5⟩), (3, some ⟨.ints .u8 (hEs i (vs.take (k + 1))), false, 5⟩)], 4⟩ _ ?_ ⟨(k + 1), by (first | omega | (simp only [IntKind.wrap_i64] at *; omega) | (simp_all; done) | (simp_all; omega)), rfl, rfl⟩ ⟨by first | (simp [getT, PV.lo, lo1, hkw, hsl, hel, hEn]; first | (rw [hS]; rfl) | exact hS0 (by omega)) | (simp [getT, PV.lo, lo1, hkw, hsl]; rw [hS]; rfl), by (simp [getH, Blk.lo, Cells.lo, lo1]; first | (rw [ht, hsn, hTy, hS]; exact ⟨rfl, rfl⟩) | (rw [ht, hsn, hen, hTn, hEn, hS, List.append_nil]; exact ⟨rfl, rfl, rfl⟩) | (rw [ht, hsn, hen, hTn, hEn, hS0 (by omega), List.append_nil, List.append_nil]; exact ⟨rfl, rfl, rfl⟩)), rfl, by omega⟩
      omega
    ·clear hC27
     try simp at hc27
     refine swp_skip ?_
     try simp only [thn, inBlk]
     refine hK25 _ ?_; clear hK25
     refine swp_seq fun K35 hK35 => ?_
     refine swp_seq fun K36 hK36 => ?_
     have hS0 : v = 0 → hS1 v = [] := fun h => by unfold hS1; rw [if_pos h]
     refine swp_region ty_ok ?_
     try simp (maxSteps := 1000000)
     repeat' (first | apply And.intro | intro _)
     any_goals (first | (refine hK36 _ ?_; clear hK36) | (first | omega | (simp only [IntKind.wrap_i64] at *; omega) | (simp_all; done) | (simp_all; omega)))
     refine swp_if fun C37 hC37 => ?_
     try simp (maxSteps := 1000000)
     refine hC37 _ (fun hc37 => ?_) (fun hc37 => ?_)
     ·exfalso
      have h := hc37
      first | (simp [h11] at h; done) | (simp at h; omega)
     ·clear hC37
      try simp at hc37
      refine swp_skip ?_
      try simp only [thn, inBlk]
      refine hK35 _ ?_; clear hK35
      first | (have hTn : hT1 i v = v.natAbs := by unfold hT1; rw [if_neg (by omega)]) | skip
      first | (have hEn : hE1 i v = [] := by unfold hE1; rw [if_neg (by omega)]) | skip
      refine swp_region ty_ok ?_
      refine runs_cut 2 fun R38 hR38 => ?_
      try simp (maxSteps := 1000000) [List.take_succ_cons, List.take_zero, List.drop_succ_cons, List.drop_zero]
      repeat' (first | apply And.intro | intro _)
      any_goals (first | (refine hR38 _ ?_; clear hR38) | (first | omega | (simp only [IntKind.wrap_i64] at *; omega) | (simp_all; done) | (simp_all; omega)))
      refine runs_cut 1 fun R39 hR39 => ?_
      try simp (maxSteps := 1000000) [List.take_succ_cons, List.take_zero, List.drop_succ_cons, List.drop_zero]
      repeat' (first | apply And.intro | intro _)
      any_goals (first | (refine Or.inl (hR39 _ ?_); clear hR39) | (first | omega | (simp only [IntKind.wrap_i64] at *; omega) | (simp_all; done) | (simp_all; omega)))
      try simp (maxSteps := 1000000) [List.take_succ_cons, List.take_zero, List.drop_succ_cons, List.drop_zero]
      repeat' (first | apply And.intro | intro _)
      any_goals (first | (refine hK20 _ ?_; clear hK20) | (first | omega | (simp only [IntKind.wrap_i64] at *; omega) | (simp_all; done) | (simp_all; omega)))
      refine swp_region ty_ok ?_
      try simp (maxSteps := 1000000)
      repeat' apply And.intro
      any_goals (try omega)
      refine hL16 _ ⟨[(0, .ro (.ints .u8 b)), (4, .ptr 0 0 0 1), (15, .sl 1 0 (k + 1) (k + 1)), (16, .sl 2 0 (hSg (vs.take (k + 1))).length (hSg (vs.take (k + 1))).length), (17, .sl 3 0 (hEs i (vs.take (k + 1))).length (hEs i (vs.take (k + 1))).length), (69, .ro (.ints .i64 vs)), (70, .int .i64 vs.length), (71, .int .i64 ((k + 1) : Nat))], [(0, some ⟨.rows 4 [[.int .i64 (i : Nat), .int .i64 p, .ro (.ints .i64 es), .ro (.ints .i64 rs)]], true, 25⟩), (1, some ⟨.ints .i64 (hTold i (vs.take (k + 1))), false, 3⟩), (2, some ⟨.ints .u8 (hSg (vs.take (k + 1))), false, 5⟩), (3, some ⟨.ints .u8 (hEs i (vs.take (k + 1))), false, 5⟩)], 4⟩ _ ?_ ⟨(k + 1), by (first | omega | (simp only [IntKind.wrap_i64] at *; omega) | (simp_all; done) | (simp_all; omega)), rfl, rfl⟩ ⟨by first | (simp [getT, PV.lo, lo1, hkw, hsl, hel, hEn]; first | (rw [hS]; rfl) | exact hS0 (by omega)) | (simp [getT, PV.lo, lo1, hkw, hsl]; rw [hS]; rfl), by (simp [getH, Blk.lo, Cells.lo, lo1]; first | (rw [ht, hsn, hTy, hS]; exact ⟨rfl, rfl⟩) | (rw [ht, hsn, hen, hTn, hEn, hS, List.append_nil]; exact ⟨rfl, rfl, rfl⟩) | (rw [ht, hsn, hen, hTn, hEn, hS0 (by omega), List.append_nil, List.append_nil]; exact ⟨rfl, rfl, rfl⟩)), rfl, by omega⟩
      omega
   ·clear hC19
    try simp at hc19
    refine swp_exit ?_
    simp [thn, inBlk]
    refine hK14 _ ?_; clear hK14
    refine swp_seq fun K40 hK40 => ?_
    have hke : k = vs.length := (by omega)
    subst hke
    have htl0 := told_len i vs
    refine swp_region ty_ok ?_
    refine runs_cut 3 fun R41 hR41 => ?_
    try simp (maxSteps := 1000000) [htl0, List.take_length, List.take_succ_cons, List.take_zero, List.drop_succ_cons, List.drop_zero]
    repeat' (first | apply And.intro | intro _)
    any_goals (first | (refine hR41 _ ?_; clear hR41) | (first | omega | (simp only [IntKind.wrap_i64] at *; omega) | (simp_all; done) | (simp_all; omega)))
    refine runs_cut 1 fun R42 hR42 => ?_
    try simp (maxSteps := 1000000) [htl0, List.take_length, List.take_succ_cons, List.take_zero, List.drop_succ_cons, List.drop_zero]
    refine .inl ⟨_, hent, ?_⟩
    try simp (maxSteps := 1000000) [htl0, List.take_length]
    repeat' (first | apply And.intro | intro _)
    any_goals (first | (refine hR42 _ ?_; clear hR42) | (first | omega | (simp only [IntKind.wrap_i64] at *; omega) | (simp_all; done) | (simp_all; omega)))
    try simp (maxSteps := 1000000) [htl0, List.take_length, List.take_succ_cons, List.take_zero, List.drop_succ_cons, List.drop_zero]
    repeat' (first | apply And.intro | intro _)
    any_goals (first | (refine hK40 _ ?_; clear hK40) | (first | omega | (simp only [IntKind.wrap_i64] at *; omega) | (simp_all; done) | (simp_all; omega)))
    refine swp_seq fun K43 hK43 => ?_
    refine swp_region ty_ok ?_
    refine runs_cut 2 fun R44 hR44 => ?_
    try simp (maxSteps := 1000000) [List.take_succ_cons, List.take_zero, List.drop_succ_cons, List.drop_zero]
    repeat' (first | apply And.intro | intro _)
    any_goals (first | (refine hR44 _ ?_; clear hR44) | (first | omega | (simp only [IntKind.wrap_i64] at *; omega) | (simp_all; done) | (simp_all; omega)))
    refine runs_cut 1 fun R45 hR45 => ?_
    try simp (maxSteps := 1000000) [List.take_succ_cons, List.take_zero, List.drop_succ_cons, List.drop_zero]
    refine .inl ⟨_, hcode, ?_⟩
    try simp (maxSteps := 1000000)
    repeat' (first | apply And.intro | intro _)
    any_goals (first | (refine hR45 _ ?_; clear hR45) | (first | omega | (simp only [IntKind.wrap_i64] at *; omega) | (simp_all; done) | (simp_all; omega)))
    try simp (maxSteps := 1000000) [List.take_succ_cons, List.take_zero, List.drop_succ_cons, List.drop_zero]
    repeat' (first | apply And.intro | intro _)
    any_goals (first | (refine hK43 _ ?_; clear hK43) | (first | omega | (simp only [IntKind.wrap_i64] at *; omega) | (simp_all; done) | (simp_all; omega)))
    refine swp_seq fun K46 hK46 => ?_
    refine swp_seq fun K47 hK47 => ?_
    refine swp_region ty_ok ?_
    try simp (maxSteps := 1000000)
    repeat' (first | apply And.intro | intro _)
    any_goals (first | (refine hK47 _ ?_; clear hK47) | (first | omega | (simp only [IntKind.wrap_i64] at *; omega) | (simp_all; done) | (simp_all; omega)))
    refine swp_if fun C48 hC48 => ?_
    try simp (maxSteps := 1000000)
    refine hC48 _ (fun hc48 => ?_) (fun hc48 => ?_)
    ·exact absurd hc48 (by simp)
    ·clear hC48
     try simp at hc48
     refine swp_skip ?_
     try simp only [thn, inBlk]
     refine hK46 _ ?_; clear hK46
     refine swp_seq fun K49 hK49 => ?_
     refine swp_region ty_ok ?_
     refine runs_cut 4 fun R50 hR50 => ?_
     try simp (maxSteps := 1000000) [List.take_succ_cons, List.take_zero, List.drop_succ_cons, List.drop_zero]
     repeat' (first | apply And.intro | intro _)
     any_goals (first | (refine hR50 _ ?_; clear hR50) | (first | omega | (simp only [IntKind.wrap_i64] at *; omega) | (simp_all; done) | (simp_all; omega)))
     refine runs_cut 1 fun R51 hR51 => ?_
     try simp (maxSteps := 1000000) [List.take_succ_cons, List.take_zero, List.drop_succ_cons, List.drop_zero]
     repeat' (first | apply And.intro | intro _)
     any_goals (first | (refine Or.inl (hR51 _ ?_); clear hR51) | (first | omega | (simp only [IntKind.wrap_i64] at *; omega) | (simp_all; done) | (simp_all; omega)))
     refine runs_cut 1 fun R52 hR52 => ?_
     try simp (maxSteps := 1000000) [List.take_succ_cons, List.take_zero, List.drop_succ_cons, List.drop_zero]
     refine .inl ⟨_, cc4 b C (hSg vs) (hEs i vs) hb (by omega) (by have := sg_len vs; omega) (by have := es_len (i := i) (vs := vs) (fun w hw => ⟨(fit_bd h1 h2 hf hw).2.2.1, (fit_bd h1 h2 hf hw).2.2.2⟩); omega), ?_⟩
     try simp (maxSteps := 1000000)
     repeat' (first | apply And.intro | intro _)
     any_goals (first | (refine hR52 _ ?_; clear hR52) | (first | omega | (simp only [IntKind.wrap_i64] at *; omega) | (simp_all; done) | (simp_all; omega)))
     try simp (maxSteps := 1000000) [List.take_succ_cons, List.take_zero, List.drop_succ_cons, List.drop_zero]
     repeat' (first | apply And.intro | intro _)
     any_goals (first | (refine hK49 _ ?_; clear hK49) | (first | omega | (simp only [IntKind.wrap_i64] at *; omega) | (simp_all; done) | (simp_all; omega)))
     refine swp_ret ?_
     simp [fnPost, Try.results15, resP, tupOf]

set_option maxHeartbeats 8000000 in
theorem putU_no_n (i : Nat) (h1 : 1 ≤ i) (h2 : i ≤ 11) (p : Int) (es rs : List Int) (b vs C : List Int) (E : Int) (hd : vs.length = bDim i) (hf : hFit i vs = true) (hcode : PCall Try.prog 45 [.agg [.int .i64 (i : Nat), .int .i64 p, .ro (.ints .i64 es), .ro (.ints .i64 rs)], .int .i64 (entN i (hTold i vs) : Nat)] (.tup [.ro (.ints .u8 C), .int .i64 E])) (hE : E = 8) (hs : hSig i = false) (h11 : ¬ i = 11)  : PCall Try.prog 15 [.ro (.ints .u8 b), .agg [.int .i64 (i : Nat), .int .i64 p, .ro (.ints .i64 es), .ro (.ints .i64 rs)], .ro (.ints .i64 vs)] (.tup [.ro (.ints .u8 []), .int .i64 8]) := by
 have hF := hkF h1 h2
 have hFd := hF.d
 have hvl : vs.length ≤ 4 := by rw [hd, hFd]; split <;> omega
 subst hE
 obtain ⟨k1, k2, k3⟩ := told_ent h1 h2 hd hf hs
 have hent := ent_ok i h1 (by omega) (hTold i vs)
 rw [k1, k2] at hent
 refine pcall_body ty_ok Try.func15 rfl (by rfl) (by simp) ?_
 rw [Try.ntmps15]
 refine swp_seq fun K1 hK1 => ?_
 refine swp_region ty_ok ?_
 try simp (maxSteps := 1000000)
 repeat' (first | apply And.intro | intro _)
 any_goals (first | (refine hK1 _ ?_; clear hK1) | (first | omega | (simp only [IntKind.wrap_i64] at *; omega) | (simp_all; done) | (simp_all; omega)))
 refine swp_seq fun K2 hK2 => ?_
 refine swp_region ty_ok ?_
 refine runs_cut 3 fun R3 hR3 => ?_
 try simp (maxSteps := 1000000) [List.take_succ_cons, List.take_zero, List.drop_succ_cons, List.drop_zero]
 repeat' (first | apply And.intro | intro _)
 any_goals (first | (refine hR3 _ ?_; clear hR3) | (first | omega | (simp only [IntKind.wrap_i64] at *; omega) | (simp_all; done) | (simp_all; omega)))
 refine runs_cut 1 fun R4 hR4 => ?_
 try simp (maxSteps := 1000000) [List.take_succ_cons, List.take_zero, List.drop_succ_cons, List.drop_zero]
 refine .inl ⟨_, fits_ok i h1 h2 vs hd, ?_⟩
 try simp (maxSteps := 1000000)
 repeat' (first | apply And.intro | intro _)
 any_goals (first | (refine hR4 _ ?_; clear hR4) | (first | omega | (simp only [IntKind.wrap_i64] at *; omega) | (simp_all; done) | (simp_all; omega)))
 try simp (maxSteps := 1000000) [List.take_succ_cons, List.take_zero, List.drop_succ_cons, List.drop_zero]
 repeat' (first | apply And.intro | intro _)
 any_goals (first | (refine hK2 _ ?_; clear hK2) | (first | omega | (simp only [IntKind.wrap_i64] at *; omega) | (simp_all; done) | (simp_all; omega)))
 refine swp_seq fun K5 hK5 => ?_
 refine swp_seq fun K6 hK6 => ?_
 refine swp_region ty_ok ?_
 try simp (maxSteps := 1000000) [hf]
 repeat' (first | apply And.intro | intro _)
 any_goals (first | (refine hK6 _ ?_; clear hK6) | (first | omega | (simp only [IntKind.wrap_i64] at *; omega) | (simp_all; done) | (simp_all; omega)))
 refine swp_if fun C7 hC7 => ?_
 try simp (maxSteps := 1000000) [hf]
 refine hC7 _ (fun hc7 => ?_) (fun hc7 => ?_)
 ·exact absurd hc7 (by simp [hf])
 ·clear hC7
  try simp at hc7
  refine swp_skip ?_
  try simp only [thn, inBlk]
  refine hK5 _ ?_; clear hK5
  refine swp_seq fun K8 hK8 => ?_
  refine swp_seq fun K9 hK9 => ?_
  refine swp_region ty_ok ?_
  refine runs_cut 2 fun R10 hR10 => ?_
  try simp (maxSteps := 1000000) [hs, List.take_succ_cons, List.take_zero, List.drop_succ_cons, List.drop_zero]
  repeat' (first | apply And.intro | intro _)
  any_goals (first | (refine hR10 _ ?_; clear hR10) | (first | omega | (simp only [IntKind.wrap_i64] at *; omega) | (simp_all; done) | (simp_all; omega)))
  try simp (maxSteps := 1000000) [hs, List.take_succ_cons, List.take_zero, List.drop_succ_cons, List.drop_zero]
  refine .inl ⟨_, signed_ok i, ?_⟩
  try simp (maxSteps := 1000000) [hs]
  repeat' (first | apply And.intro | intro _)
  any_goals (first | (refine hK9 _ ?_; clear hK9) | (first | omega | (simp only [IntKind.wrap_i64] at *; omega) | (simp_all; done) | (simp_all; omega)))
  refine swp_if fun C11 hC11 => ?_
  try simp (maxSteps := 1000000) [hs]
  refine hC11 _ (fun hc11 => ?_) (fun hc11 => ?_)
  ·exact absurd hc11 (by simp [hs])
  ·clear hC11
   try simp at hc11
   refine swp_skip ?_
   try simp only [thn, inBlk]
   refine hK8 _ ?_; clear hK8
   refine swp_seq fun K12 hK12 => ?_
   refine swp_region ty_ok ?_
   try simp (maxSteps := 1000000)
   repeat' (first | apply And.intro | intro _)
   any_goals (first | (refine hK12 _ ?_; clear hK12) | (first | omega | (simp only [IntKind.wrap_i64] at *; omega) | (simp_all; done) | (simp_all; omega)))
   refine swp_seq fun K13 hK13 => ?_
   refine swp_region ty_ok ?_
   try simp (maxSteps := 1000000)
   repeat' (first | apply And.intro | intro _)
   any_goals (first | (refine hK13 _ ?_; clear hK13) | (first | omega | (simp only [IntKind.wrap_i64] at *; omega) | (simp_all; done) | (simp_all; omega)))
   refine swp_seq fun K14 hK14 => ?_
   refine swp_seq fun K15 hK15 => ?_
   refine swp_region ty_ok ?_
   try simp (maxSteps := 1000000)
   repeat' (first | apply And.intro | intro _)
   any_goals (first | (refine hK15 _ ?_; clear hK15) | (first | omega | (simp only [IntKind.wrap_i64] at *; omega) | (simp_all; done) | (simp_all; omega)))
   refine swp_block ?_
   refine swp_own 15 3 (by simp [getT]; rfl) rfl ?_
   refine swp_own 16 5 (by simp [getT]; rfl) rfl ?_
   refine swp_own 17 5 (by simp [getT]; rfl) rfl ?_
   refine swp_loop 4 (fun m_ s_ => ∃ (k : Nat), (k ≤ vs.length) ∧ s_ = ⟨[(0, .ro (.ints .u8 b)), (4, .ptr 0 0 0 1), (15, .sl 1 0 k k), (16, .sl 2 0 (hSg (vs.take k)).length (hSg (vs.take k)).length), (17, .sl 3 0 (hEs i (vs.take k)).length (hEs i (vs.take k)).length), (69, .ro (.ints .i64 vs)), (70, .int .i64 vs.length), (71, .int .i64 (k : Nat))], [(0, some ⟨.rows 4 [[.int .i64 (i : Nat), .int .i64 p, .ro (.ints .i64 es), .ro (.ints .i64 rs)]], true, 25⟩), (1, some ⟨.ints .i64 (hTold i (vs.take k)), false, 3⟩), (2, some ⟨.ints .u8 (hSg (vs.take k)), false, 5⟩), (3, some ⟨.ints .u8 (hEs i (vs.take k)), false, 5⟩)], 4⟩ ∧ m_ = vs.length - k) _ ⟨[(0, .ro (.ints .u8 b)), (4, .ptr 0 0 0 1), (15, .sl 1 0 0 0), (16, .sl 2 0 (hSg (vs.take 0)).length (hSg (vs.take 0)).length), (17, .sl 3 0 (hEs i (vs.take 0)).length (hEs i (vs.take 0)).length), (69, .ro (.ints .i64 vs)), (70, .int .i64 vs.length), (71, .int .i64 (0 : Nat))], [(0, some ⟨.rows 4 [[.int .i64 (i : Nat), .int .i64 p, .ro (.ints .i64 es), .ro (.ints .i64 rs)]], true, 25⟩), (1, some ⟨.ints .i64 (hTold i (vs.take 0)), false, 3⟩), (2, some ⟨.ints .u8 (hSg (vs.take 0)), false, 5⟩), (3, some ⟨.ints .u8 (hEs i (vs.take 0)), false, 5⟩)], 4⟩ ⟨by simp [getT, PV.lo, lo1, hTold, hSg, hEs], by simp [getH, Blk.lo, Cells.lo, lo1, hTold, hSg, hEs], rfl, by omega⟩ ⟨(0), by (first | omega | (simp only [IntKind.wrap_i64] at *; omega) | (simp_all; done) | (simp_all; omega)), rfl, rfl⟩ ?_
   rintro m_ s_ ⟨k, hL16_0, rfl, rfl⟩ KL16 hL16
   have hkw := wnext (i := k) (by omega)
   refine swp_seq fun K17 hK17 => ?_
   refine swp_region ty_ok ?_
   try simp (maxSteps := 1000000)
   repeat' (first | apply And.intro | intro _)
   any_goals (first | (refine hK17 _ ?_; clear hK17) | (first | omega | (simp only [IntKind.wrap_i64] at *; omega) | (simp_all; done) | (simp_all; omega)))
   refine swp_seq fun K18 hK18 => ?_
   refine swp_if fun C19 hC19 => ?_
   try simp (maxSteps := 1000000)
   refine hC19 _ (fun hc19 => ?_) (fun hc19 => ?_)
   ·clear hC19
    try simp at hc19
    refine swp_skip ?_
    try simp only [thn, inBlk]
    refine hK18 _ ?_; clear hK18
    refine swp_seq fun K20 hK20 => ?_
    refine swp_block ?_
    refine swp_seq fun K21 hK21 => ?_
    have hkl : k < vs.length := (by have h := hc19; omega)
    obtain ⟨v, hv⟩ : ∃ v, vs[k]?.getD 0 = v := ⟨_, rfl⟩
    have hmem : v ∈ vs := by rw [← hv, List.getElem?_eq_getElem hkl]; exact List.getElem_mem hkl
    have hvb := fit_bd h1 h2 hf hmem
    have ht := told_snoc (i := i) hkl
    have hsn := sg_snoc hkl
    have hen := es_snoc (i := i) hkl
    rw [hv] at ht hsn hen
    have htl : (hTold i (vs.take (k + 1))).length = k + 1 := by rw [told_len, List.length_take]; omega
    have hslk : (hSg (vs.take k)).length ≤ 4 := by have := sg_len (vs.take k); rw [List.length_take] at this; omega
    have helk : (hEs i (vs.take k)).length ≤ 84 := by have := es_len (i := i) (vs := vs.take k) (fun w hw => ⟨(fit_bd h1 h2 hf (List.mem_of_mem_take hw)).2.2.1, (fit_bd h1 h2 hf (List.mem_of_mem_take hw)).2.2.2⟩); rw [List.length_take] at this; omega
    have hsl : (hSg (vs.take (k + 1))).length = (hSg (vs.take k)).length + (hS1 v).length := by rw [hsn, List.length_append]
    have hel : (hEs i (vs.take (k + 1))).length = (hEs i (vs.take k)).length + (hE1 i v).length := by rw [hen, List.length_append]
    have htlk : (hTold i (vs.take k)).length = k := by rw [told_len, List.length_take]; omega
    refine swp_region ty_ok ?_
    try simp (maxSteps := 1000000)
    repeat' (first | apply And.intro | intro _)
    any_goals (first | (refine hK21 _ ?_; clear hK21) | (first | omega | (simp only [IntKind.wrap_i64] at *; omega) | (simp_all; done) | (simp_all; omega)))
    refine swp_seq fun K22 hK22 => ?_
    refine swp_region ty_ok ?_
    refine runs_cut 1 fun R23 hR23 => ?_
    try simp (maxSteps := 1000000) [hv, List.take_succ_cons, List.take_zero, List.drop_succ_cons, List.drop_zero]
    repeat' (first | apply And.intro | intro _)
    any_goals (first | (refine hR23 _ ?_; clear hR23) | (first | omega | (simp only [IntKind.wrap_i64] at *; omega) | (simp_all; done) | (simp_all; omega)))
    refine runs_cut 1 fun R24 hR24 => ?_
    try simp (maxSteps := 1000000) [hv, List.take_succ_cons, List.take_zero, List.drop_succ_cons, List.drop_zero]
    refine .inl ⟨_, hsize_ok v (by omega), ?_⟩
    try simp (maxSteps := 1000000) [hv]
    repeat' (first | apply And.intro | intro _)
    any_goals (first | (refine hR24 _ ?_; clear hR24) | (first | omega | (simp only [IntKind.wrap_i64] at *; omega) | (simp_all; done) | (simp_all; omega)))
    try simp (maxSteps := 1000000) [hv, List.take_succ_cons, List.take_zero, List.drop_succ_cons, List.drop_zero]
    repeat' (first | apply And.intro | intro _)
    any_goals (first | (refine hK22 _ ?_; clear hK22) | (first | omega | (simp only [IntKind.wrap_i64] at *; omega) | (simp_all; done) | (simp_all; omega)))
    refine swp_seq fun K25 hK25 => ?_
    refine swp_seq fun K26 hK26 => ?_
    refine swp_region ty_ok ?_
    try simp (maxSteps := 1000000)
    repeat' (first | apply And.intro | intro _)
    any_goals (first | (refine hK26 _ ?_; clear hK26) | (first | omega | (simp only [IntKind.wrap_i64] at *; omega) | (simp_all; done) | (simp_all; omega)))
    refine swp_if fun C27 hC27 => ?_
    try simp (maxSteps := 1000000)
    refine hC27 _ (fun hc27 => ?_) (fun hc27 => ?_)
    ·clear hC27
     try simp at hc27
     have hv0 : ¬ v = 0 := hc27
     have hS : hS1 v = [if v < 0 then 1 else 0] := by unfold hS1; rw [if_neg hv0]
     have hshr : IntKind.u8.wrap ((IntKind.u64.wrap v).fdiv (2 ^ min 63 IntKind.u64.bits)) = if v < 0 then 1 else 0 := by
      have e0 : ((2 : Int) ^ min 63 IntKind.u64.bits) = 9223372036854775808 := rfl
      rw [e0]
      by_cases hn : v < 0
      ·rw [if_pos hn]
       have e1 : IntKind.u64.wrap v = v + 18446744073709551616 := by show v % 18446744073709551616 = _; omega
       rw [e1, Int.fdiv_eq_ediv_of_nonneg _ (by decide), show (v + 18446744073709551616) / 9223372036854775808 = 1 by omega]; rfl
      ·rw [if_neg hn]
       have e1 : IntKind.u64.wrap v = v := by show v % 18446744073709551616 = _; omega
       rw [e1, Int.fdiv_eq_ediv_of_nonneg _ (by decide), show v / 9223372036854775808 = 0 by omega]; rfl
     refine swp_region ty_ok ?_
     refine runs_cut 5 fun R28 hR28 => ?_
     try simp (maxSteps := 1000000) [hshr, List.take_succ_cons, List.take_zero, List.drop_succ_cons, List.drop_zero]
     repeat' (first | apply And.intro | intro _)
     any_goals (first | (refine hR28 _ ?_; clear hR28) | (first | omega | (simp only [IntKind.wrap_i64] at *; omega) | (simp_all; done) | (simp_all; omega)))
     refine runs_cut 1 fun R29 hR29 => ?_
     try simp (maxSteps := 1000000) [hshr, List.take_succ_cons, List.take_zero, List.drop_succ_cons, List.drop_zero]
     repeat' (first | apply And.intro | intro _)
     any_goals (first | (refine Or.inl (hR29 _ ?_); clear hR29) | (first | omega | (simp only [IntKind.wrap_i64] at *; omega) | (simp_all; done) | (simp_all; omega)))
     try simp (maxSteps := 1000000) [hshr, List.take_succ_cons, List.take_zero, List.drop_succ_cons, List.drop_zero]
     repeat' (first | apply And.intro | intro _)
     any_goals (first | (refine hK25 _ ?_; clear hK25) | (first | omega | (simp only [IntKind.wrap_i64] at *; omega) | (simp_all; done) | (simp_all; omega)))
     refine swp_seq fun K30 hK30 => ?_
     refine swp_seq fun K31 hK31 => ?_
     have hS0 : v = 0 → hS1 v = [] := fun h => by unfold hS1; rw [if_pos h]
     refine swp_region ty_ok ?_
     try simp (maxSteps := 1000000)
     repeat' (first | apply And.intro | intro _)
     any_goals (first | (refine hK31 _ ?_; clear hK31) | (first | omega | (simp only [IntKind.wrap_i64] at *; omega) | (simp_all; done) | (simp_all; omega)))
     refine swp_if fun C32 hC32 => ?_
     try simp (maxSteps := 1000000)
     refine hC32 _ (fun hc32 => ?_) (fun hc32 => ?_)
     ·exfalso
      have h := hc32
      first | (simp at h; omega) | (simp [h11] at h; done)
     ·clear hC32
      try simp at hc32
      refine swp_skip ?_
      try simp only [thn, inBlk]
      refine hK30 _ ?_; clear hK30
      first | (have hTn : hT1 i v = v.natAbs := by unfold hT1; rw [if_neg (by omega)]) | skip
      first | (have hEn : hE1 i v = [] := by unfold hE1; rw [if_neg (by omega)]) | skip
      refine swp_region ty_ok ?_
      refine runs_cut 2 fun R33 hR33 => ?_
      try simp (maxSteps := 1000000) [List.take_succ_cons, List.take_zero, List.drop_succ_cons, List.drop_zero]
      repeat' (first | apply And.intro | intro _)
      any_goals (first | (refine hR33 _ ?_; clear hR33) | (first | omega | (simp only [IntKind.wrap_i64] at *; omega) | (simp_all; done) | (simp_all; omega)))
      refine runs_cut 1 fun R34 hR34 => ?_
      try simp (maxSteps := 1000000) [List.take_succ_cons, List.take_zero, List.drop_succ_cons, List.drop_zero]
      repeat' (first | apply And.intro | intro _)
      any_goals (first | (refine Or.inl (hR34 _ ?_); clear hR34) | (first | omega | (simp only [IntKind.wrap_i64] at *; omega) | (simp_all; done) | (simp_all; omega)))
      try simp (maxSteps := 1000000) [List.take_succ_cons, List.take_zero, List.drop_succ_cons, List.drop_zero]
      repeat' (first | apply And.intro | intro _)
      any_goals (first | (refine hK20 _ ?_; clear hK20) | (first | omega | (simp only [IntKind.wrap_i64] at *; omega) | (simp_all; done) | (simp_all; omega)))
      refine swp_region ty_ok ?_
      try simp (maxSteps := 1000000)
      repeat' apply And.intro
      any_goals (try omega)
      refine hL16 _ ⟨[(0, .ro (.ints .u8 b)), (4, .ptr 0 0 0 1), (15, .sl 1 0 (k + 1) (k + 1)), (16, .sl 2 0 (hSg (vs.take (k + 1))).length (hSg (vs.take (k + 1))).length), (17, .sl 3 0 (hEs i (vs.take (k + 1))).length (hEs i (vs.take (k + 1))).length), (69, .ro (.ints .i64 vs)), (70, .int .i64 vs.length), (71, .int .i64 ((k + 1) : Nat))], [(0, some ⟨.rows 4 [[.int .i64 (i : Nat), .int .i64 p, .ro (.ints .i64 es), .ro (.ints .i64 rs)]], true, 25⟩), (1, some ⟨.ints .i64 (hTold i (vs.take (k + 1))), false, 3⟩), (2, some ⟨.ints .u8 (hSg (vs.take (k + 1))), false, 5⟩), (3, some ⟨.ints .u8 (hEs i (vs.take (k + 1))), false, 5⟩)], 4⟩ _ ?_ ⟨(k + 1), by (first | omega | (simp only [IntKind.wrap_i64] at *; omega) | (simp_all; done) | (simp_all; omega)), rfl, rfl⟩ ⟨by first | (simp [getT, PV.lo, lo1, hkw, hsl, hel, hEn]; first | (rw [hS]; rfl) | exact hS0 (by omega)) | (simp [getT, PV.lo, lo1, hkw, hsl]; rw [hS]; rfl), by (simp [getH, Blk.lo, Cells.lo, lo1]; first | (rw [ht, hsn, hTy, hS]; exact ⟨rfl, rfl⟩) | (rw [ht, hsn, hen, hTn, hEn, hS, List.append_nil]; exact ⟨rfl, rfl, rfl⟩) | (rw [ht, hsn, hen, hTn, hEn, hS0 (by omega), List.append_nil, List.append_nil]; exact ⟨rfl, rfl, rfl⟩)), rfl, by omega⟩
      omega
    ·clear hC27
     try simp at hc27
     refine swp_skip ?_
     try simp only [thn, inBlk]
     refine hK25 _ ?_; clear hK25
     refine swp_seq fun K35 hK35 => ?_
     refine swp_seq fun K36 hK36 => ?_
     have hS0 : v = 0 → hS1 v = [] := fun h => by unfold hS1; rw [if_pos h]
     refine swp_region ty_ok ?_
     try simp (maxSteps := 1000000)
     repeat' (first | apply And.intro | intro _)
     any_goals (first | (refine hK36 _ ?_; clear hK36) | (first | omega | (simp only [IntKind.wrap_i64] at *; omega) | (simp_all; done) | (simp_all; omega)))
     refine swp_if fun C37 hC37 => ?_
     try simp (maxSteps := 1000000)
     refine hC37 _ (fun hc37 => ?_) (fun hc37 => ?_)
     ·exfalso
      have h := hc37
      first | (simp [h11] at h; done) | (simp at h; omega)
     ·clear hC37
      try simp at hc37
      refine swp_skip ?_
      try simp only [thn, inBlk]
      refine hK35 _ ?_; clear hK35
      first | (have hTn : hT1 i v = v.natAbs := by unfold hT1; rw [if_neg (by omega)]) | skip
      first | (have hEn : hE1 i v = [] := by unfold hE1; rw [if_neg (by omega)]) | skip
      refine swp_region ty_ok ?_
      refine runs_cut 2 fun R38 hR38 => ?_
      try simp (maxSteps := 1000000) [List.take_succ_cons, List.take_zero, List.drop_succ_cons, List.drop_zero]
      repeat' (first | apply And.intro | intro _)
      any_goals (first | (refine hR38 _ ?_; clear hR38) | (first | omega | (simp only [IntKind.wrap_i64] at *; omega) | (simp_all; done) | (simp_all; omega)))
      refine runs_cut 1 fun R39 hR39 => ?_
      try simp (maxSteps := 1000000) [List.take_succ_cons, List.take_zero, List.drop_succ_cons, List.drop_zero]
      repeat' (first | apply And.intro | intro _)
      any_goals (first | (refine Or.inl (hR39 _ ?_); clear hR39) | (first | omega | (simp only [IntKind.wrap_i64] at *; omega) | (simp_all; done) | (simp_all; omega)))
      try simp (maxSteps := 1000000) [List.take_succ_cons, List.take_zero, List.drop_succ_cons, List.drop_zero]
      repeat' (first | apply And.intro | intro _)
      any_goals (first | (refine hK20 _ ?_; clear hK20) | (first | omega | (simp only [IntKind.wrap_i64] at *; omega) | (simp_all; done) | (simp_all; omega)))
      refine swp_region ty_ok ?_
      try simp (maxSteps := 1000000)
      repeat' apply And.intro
      any_goals (try omega)
      refine hL16 _ ⟨[(0, .ro (.ints .u8 b)), (4, .ptr 0 0 0 1), (15, .sl 1 0 (k + 1) (k + 1)), (16, .sl 2 0 (hSg (vs.take (k + 1))).length (hSg (vs.take (k + 1))).length), (17, .sl 3 0 (hEs i (vs.take (k + 1))).length (hEs i (vs.take (k + 1))).length), (69, .ro (.ints .i64 vs)), (70, .int .i64 vs.length), (71, .int .i64 ((k + 1) : Nat))], [(0, some ⟨.rows 4 [[.int .i64 (i : Nat), .int .i64 p, .ro (.ints .i64 es), .ro (.ints .i64 rs)]], true, 25⟩), (1, some ⟨.ints .i64 (hTold i (vs.take (k + 1))), false, 3⟩), (2, some ⟨.ints .u8 (hSg (vs.take (k + 1))), false, 5⟩), (3, some ⟨.ints .u8 (hEs i (vs.take (k + 1))), false, 5⟩)], 4⟩ _ ?_ ⟨(k + 1), by (first | omega | (simp only [IntKind.wrap_i64] at *; omega) | (simp_all; done) | (simp_all; omega)), rfl, rfl⟩ ⟨by first | (simp [getT, PV.lo, lo1, hkw, hsl, hel, hEn]; first | (rw [hS]; rfl) | exact hS0 (by omega)) | (simp [getT, PV.lo, lo1, hkw, hsl]; rw [hS]; rfl), by (simp [getH, Blk.lo, Cells.lo, lo1]; first | (rw [ht, hsn, hTy, hS]; exact ⟨rfl, rfl⟩) | (rw [ht, hsn, hen, hTn, hEn, hS, List.append_nil]; exact ⟨rfl, rfl, rfl⟩) | (rw [ht, hsn, hen, hTn, hEn, hS0 (by omega), List.append_nil, List.append_nil]; exact ⟨rfl, rfl, rfl⟩)), rfl, by omega⟩
      omega
   ·clear hC19
    try simp at hc19
    refine swp_exit ?_
    simp [thn, inBlk]
    refine hK14 _ ?_; clear hK14
    refine swp_seq fun K40 hK40 => ?_
    have hke : k = vs.length := (by omega)
    subst hke
    have htl0 := told_len i vs
    refine swp_region ty_ok ?_
    refine runs_cut 3 fun R41 hR41 => ?_
    try simp (maxSteps := 1000000) [htl0, List.take_length, List.take_succ_cons, List.take_zero, List.drop_succ_cons, List.drop_zero]
    repeat' (first | apply And.intro | intro _)
    any_goals (first | (refine hR41 _ ?_; clear hR41) | (first | omega | (simp only [IntKind.wrap_i64] at *; omega) | (simp_all; done) | (simp_all; omega)))
    refine runs_cut 1 fun R42 hR42 => ?_
    try simp (maxSteps := 1000000) [htl0, List.take_length, List.take_succ_cons, List.take_zero, List.drop_succ_cons, List.drop_zero]
    refine .inl ⟨_, hent, ?_⟩
    try simp (maxSteps := 1000000) [htl0, List.take_length]
    repeat' (first | apply And.intro | intro _)
    any_goals (first | (refine hR42 _ ?_; clear hR42) | (first | omega | (simp only [IntKind.wrap_i64] at *; omega) | (simp_all; done) | (simp_all; omega)))
    try simp (maxSteps := 1000000) [htl0, List.take_length, List.take_succ_cons, List.take_zero, List.drop_succ_cons, List.drop_zero]
    repeat' (first | apply And.intro | intro _)
    any_goals (first | (refine hK40 _ ?_; clear hK40) | (first | omega | (simp only [IntKind.wrap_i64] at *; omega) | (simp_all; done) | (simp_all; omega)))
    refine swp_seq fun K43 hK43 => ?_
    refine swp_region ty_ok ?_
    refine runs_cut 2 fun R44 hR44 => ?_
    try simp (maxSteps := 1000000) [List.take_succ_cons, List.take_zero, List.drop_succ_cons, List.drop_zero]
    repeat' (first | apply And.intro | intro _)
    any_goals (first | (refine hR44 _ ?_; clear hR44) | (first | omega | (simp only [IntKind.wrap_i64] at *; omega) | (simp_all; done) | (simp_all; omega)))
    refine runs_cut 1 fun R45 hR45 => ?_
    try simp (maxSteps := 1000000) [List.take_succ_cons, List.take_zero, List.drop_succ_cons, List.drop_zero]
    refine .inl ⟨_, hcode, ?_⟩
    try simp (maxSteps := 1000000)
    repeat' (first | apply And.intro | intro _)
    any_goals (first | (refine hR45 _ ?_; clear hR45) | (first | omega | (simp only [IntKind.wrap_i64] at *; omega) | (simp_all; done) | (simp_all; omega)))
    try simp (maxSteps := 1000000) [List.take_succ_cons, List.take_zero, List.drop_succ_cons, List.drop_zero]
    repeat' (first | apply And.intro | intro _)
    any_goals (first | (refine hK43 _ ?_; clear hK43) | (first | omega | (simp only [IntKind.wrap_i64] at *; omega) | (simp_all; done) | (simp_all; omega)))
    refine swp_seq fun K46 hK46 => ?_
    refine swp_seq fun K47 hK47 => ?_
    refine swp_region ty_ok ?_
    try simp (maxSteps := 1000000)
    repeat' (first | apply And.intro | intro _)
    any_goals (first | (refine hK47 _ ?_; clear hK47) | (first | omega | (simp only [IntKind.wrap_i64] at *; omega) | (simp_all; done) | (simp_all; omega)))
    refine swp_if fun C48 hC48 => ?_
    try simp (maxSteps := 1000000)
    refine hC48 _ (fun hc48 => ?_) (fun hc48 => ?_)
    ·clear hC48
     try simp at hc48
     refine swp_seq fun K49 hK49 => ?_
     refine swp_region ty_ok ?_
     try simp (maxSteps := 1000000)
     repeat' (first | apply And.intro | intro _)
     any_goals (first | (refine hK49 _ ?_; clear hK49) | (first | omega | (simp only [IntKind.wrap_i64] at *; omega) | (simp_all; done) | (simp_all; omega)))
     refine swp_ret ?_
     simp [fnPost, Try.results15, resP, tupOf]
    ·exact absurd hc48 (by simp)

set_option maxHeartbeats 8000000 in
theorem putU_ok_e (i : Nat) (h1 : 1 ≤ i) (h2 : i ≤ 11) (p : Int) (es rs : List Int) (b vs C : List Int) (E : Int) (hd : vs.length = bDim i) (hf : hFit i vs = true) (hcode : PCall Try.prog 45 [.agg [.int .i64 (i : Nat), .int .i64 p, .ro (.ints .i64 es), .ro (.ints .i64 rs)], .int .i64 (entN i (hTold i vs) : Nat)] (.tup [.ro (.ints .u8 C), .int .i64 E])) (hE : E = 0) (hC : 1 ≤ C.length ∧ C.length ≤ 100) (hb : b.length ≤ 1000000) (hs : hSig i = false) (h11 : i = 11)  : PCall Try.prog 15 [.ro (.ints .u8 b), .agg [.int .i64 (i : Nat), .int .i64 p, .ro (.ints .i64 es), .ro (.ints .i64 rs)], .ro (.ints .i64 vs)] (.tup [.ro (.ints .u8 (b ++ C ++ hSg vs ++ hEs i vs)), .int .i64 0]) := by
 have hF := hkF h1 h2
 have hFd := hF.d
 have hvl : vs.length ≤ 4 := by rw [hd, hFd]; split <;> omega
 subst hE
 obtain ⟨k1, k2, k3⟩ := told_ent h1 h2 hd hf hs
 have hent := ent_ok i h1 (by omega) (hTold i vs)
 rw [k1, k2] at hent
 refine pcall_body ty_ok Try.func15 rfl (by rfl) (by simp) ?_
 rw [Try.ntmps15]
 refine swp_seq fun K1 hK1 => ?_
 refine swp_region ty_ok ?_
 try simp (maxSteps := 1000000)
 repeat' (first | apply And.intro | intro _)
 any_goals (first | (refine hK1 _ ?_; clear hK1) | (first | omega | (simp only [IntKind.wrap_i64] at *; omega) | (simp_all; done) | (simp_all; omega)))
 refine swp_seq fun K2 hK2 => ?_
 refine swp_region ty_ok ?_
 refine runs_cut 3 fun R3 hR3 => ?_
 try simp (maxSteps := 1000000) [List.take_succ_cons, List.take_zero, List.drop_succ_cons, List.drop_zero]
 repeat' (first | apply And.intro | intro _)
 any_goals (first | (refine hR3 _ ?_; clear hR3) | (first | omega | (simp only [IntKind.wrap_i64] at *; omega) | (simp_all; done) | (simp_all; omega)))
 refine runs_cut 1 fun R4 hR4 => ?_
 try simp (maxSteps := 1000000) [List.take_succ_cons, List.take_zero, List.drop_succ_cons, List.drop_zero]
 refine .inl ⟨_, fits_ok i h1 h2 vs hd, ?_⟩
 try simp (maxSteps := 1000000)
 repeat' (first | apply And.intro | intro _)
 any_goals (first | (refine hR4 _ ?_; clear hR4) | (first | omega | (simp only [IntKind.wrap_i64] at *; omega) | (simp_all; done) | (simp_all; omega)))
 try simp (maxSteps := 1000000) [List.take_succ_cons, List.take_zero, List.drop_succ_cons, List.drop_zero]
 repeat' (first | apply And.intro | intro _)
 any_goals (first | (refine hK2 _ ?_; clear hK2) | (first | omega | (simp only [IntKind.wrap_i64] at *; omega) | (simp_all; done) | (simp_all; omega)))
 refine swp_seq fun K5 hK5 => ?_
 refine swp_seq fun K6 hK6 => ?_
 refine swp_region ty_ok ?_
 try simp (maxSteps := 1000000) [hf]
 repeat' (first | apply And.intro | intro _)
 any_goals (first | (refine hK6 _ ?_; clear hK6) | (first | omega | (simp only [IntKind.wrap_i64] at *; omega) | (simp_all; done) | (simp_all; omega)))
 refine swp_if fun C7 hC7 => ?_
 try simp (maxSteps := 1000000) [hf]
 refine hC7 _ (fun hc7 => ?_) (fun hc7 => ?_)
 ·exact absurd hc7 (by simp [hf])
 ·clear hC7
  try simp at hc7
  refine swp_skip ?_
  try simp only [thn, inBlk]
  refine hK5 _ ?_; clear hK5
  refine swp_seq fun K8 hK8 => ?_
  refine swp_seq fun K9 hK9 => ?_
  refine swp_region ty_ok ?_
  refine runs_cut 2 fun R10 hR10 => ?_
  try simp (maxSteps := 1000000) [hs, List.take_succ_cons, List.take_zero, List.drop_succ_cons, List.drop_zero]
  repeat' (first | apply And.intro | intro _)
  any_goals (first | (refine hR10 _ ?_; clear hR10) | (first | omega | (simp only [IntKind.wrap_i64] at *; omega) | (simp_all; done) | (simp_all; omega)))
  try simp (maxSteps := 1000000) [hs, List.take_succ_cons, List.take_zero, List.drop_succ_cons, List.drop_zero]
  refine .inl ⟨_, signed_ok i, ?_⟩
  try simp (maxSteps := 1000000) [hs]
  repeat' (first | apply And.intro | intro _)
  any_goals (first | (refine hK9 _ ?_; clear hK9) | (first | omega | (simp only [IntKind.wrap_i64] at *; omega) | (simp_all; done) | (simp_all; omega)))
  refine swp_if fun C11 hC11 => ?_
  try simp (maxSteps := 1000000) [hs]
  refine hC11 _ (fun hc11 => ?_) (fun hc11 => ?_)
  ·exact absurd hc11 (by simp [hs])
  ·clear hC11
   try simp at hc11
   refine swp_skip ?_
   try simp only [thn, inBlk]
   refine hK8 _ ?_; clear hK8
   refine swp_seq fun K12 hK12 => ?_
   refine swp_region ty_ok ?_
   try simp (maxSteps := 1000000)
   repeat' (first | apply And.intro | intro _)
   any_goals (first | (refine hK12 _ ?_; clear hK12) | (first | omega | (simp only [IntKind.wrap_i64] at *; omega) | (simp_all; done) | (simp_all; omega)))
   refine swp_seq fun K13 hK13 => ?_
   refine swp_region ty_ok ?_
   try simp (maxSteps := 1000000)
   repeat' (first | apply And.intro | intro _)
   any_goals (first | (refine hK13 _ ?_; clear hK13) | (first | omega | (simp only [IntKind.wrap_i64] at *; omega) | (simp_all; done) | (simp_all; omega)))
   refine swp_seq fun K14 hK14 => ?_
   refine swp_seq fun K15 hK15 => ?_
   refine swp_region ty_ok ?_
   try simp (maxSteps := 1000000)
   repeat' (first | apply And.intro | intro _)
   any_goals (first | (refine hK15 _ ?_; clear hK15) | (first | omega | (simp only [IntKind.wrap_i64] at *; omega) | (simp_all; done) | (simp_all; omega)))
   refine swp_block ?_
   refine swp_own 15 3 (by simp [getT]; rfl) rfl ?_
   refine swp_own 16 5 (by simp [getT]; rfl) rfl ?_
   refine swp_own 17 5 (by simp [getT]; rfl) rfl ?_
   refine swp_loop 4 (fun m_ s_ => ∃ (k : Nat), (k ≤ vs.length) ∧ s_ = ⟨[(0, .ro (.ints .u8 b)), (4, .ptr 0 0 0 1), (15, .sl 1 0 k k), (16, .sl 2 0 (hSg (vs.take k)).length (hSg (vs.take k)).length), (17, .sl 3 0 (hEs i (vs.take k)).length (hEs i (vs.take k)).length), (69, .ro (.ints .i64 vs)), (70, .int .i64 vs.length), (71, .int .i64 (k : Nat))], [(0, some ⟨.rows 4 [[.int .i64 (i : Nat), .int .i64 p, .ro (.ints .i64 es), .ro (.ints .i64 rs)]], true, 25⟩), (1, some ⟨.ints .i64 (hTold i (vs.take k)), false, 3⟩), (2, some ⟨.ints .u8 (hSg (vs.take k)), false, 5⟩), (3, some ⟨.ints .u8 (hEs i (vs.take k)), false, 5⟩)], 4⟩ ∧ m_ = vs.length - k) _ ⟨[(0, .ro (.ints .u8 b)), (4, .ptr 0 0 0 1), (15, .sl 1 0 0 0), (16, .sl 2 0 (hSg (vs.take 0)).length (hSg (vs.take 0)).length), (17, .sl 3 0 (hEs i (vs.take 0)).length (hEs i (vs.take 0)).length), (69, .ro (.ints .i64 vs)), (70, .int .i64 vs.length), (71, .int .i64 (0 : Nat))], [(0, some ⟨.rows 4 [[.int .i64 (i : Nat), .int .i64 p, .ro (.ints .i64 es), .ro (.ints .i64 rs)]], true, 25⟩), (1, some ⟨.ints .i64 (hTold i (vs.take 0)), false, 3⟩), (2, some ⟨.ints .u8 (hSg (vs.take 0)), false, 5⟩), (3, some ⟨.ints .u8 (hEs i (vs.take 0)), false, 5⟩)], 4⟩ ⟨by simp [getT, PV.lo, lo1, hTold, hSg, hEs], by simp [getH, Blk.lo, Cells.lo, lo1, hTold, hSg, hEs], rfl, by omega⟩ ⟨(0), by (first | omega | (simp only [IntKind.wrap_i64] at *; omega) | (simp_all; done) | (simp_all; omega)), rfl, rfl⟩ ?_
   rintro m_ s_ ⟨k, hL16_0, rfl, rfl⟩ KL16 hL16
   have hkw := wnext (i := k) (by omega)
   refine swp_seq fun K17 hK17 => ?_
   refine swp_region ty_ok ?_
   try simp (maxSteps := 1000000)
   repeat' (first | apply And.intro | intro _)
   any_goals (first | (refine hK17 _ ?_; clear hK17) | (first | omega | (simp only [IntKind.wrap_i64] at *; omega) | (simp_all; done) | (simp_all; omega)))
   refine swp_seq fun K18 hK18 => ?_
   refine swp_if fun C19 hC19 => ?_
   try simp (maxSteps := 1000000)
   refine hC19 _ (fun hc19 => ?_) (fun hc19 => ?_)
   ·clear hC19
    try simp at hc19
    refine swp_skip ?_
    try simp only [thn, inBlk]
    refine hK18 _ ?_; clear hK18
    refine swp_seq fun K20 hK20 => ?_
    refine swp_block ?_
    refine swp_seq fun K21 hK21 => ?_
    have hkl : k < vs.length := (by have h := hc19; omega)
    obtain ⟨v, hv⟩ : ∃ v, vs[k]?.getD 0 = v := ⟨_, rfl⟩
    have hmem : v ∈ vs := by rw [← hv, List.getElem?_eq_getElem hkl]; exact List.getElem_mem hkl
    have hvb := fit_bd h1 h2 hf hmem
    have ht := told_snoc (i := i) hkl
    have hsn := sg_snoc hkl
    have hen := es_snoc (i := i) hkl
    rw [hv] at ht hsn hen
    have htl : (hTold i (vs.take (k + 1))).length = k + 1 := by rw [told_len, List.length_take]; omega
    have hslk : (hSg (vs.take k)).length ≤ 4 := by have := sg_len (vs.take k); rw [List.length_take] at this; omega
    have helk : (hEs i (vs.take k)).length ≤ 84 := by have := es_len (i := i) (vs := vs.take k) (fun w hw => ⟨(fit_bd h1 h2 hf (List.mem_of_mem_take hw)).2.2.1, (fit_bd h1 h2 hf (List.mem_of_mem_take hw)).2.2.2⟩); rw [List.length_take] at this; omega
    have hsl : (hSg (vs.take (k + 1))).length = (hSg (vs.take k)).length + (hS1 v).length := by rw [hsn, List.length_append]
    have hel : (hEs i (vs.take (k + 1))).length = (hEs i (vs.take k)).length + (hE1 i v).length := by rw [hen, List.length_append]
    have htlk : (hTold i (vs.take k)).length = k := by rw [told_len, List.length_take]; omega
    refine swp_region ty_ok ?_
    try simp (maxSteps := 1000000)
    repeat' (first | apply And.intro | intro _)
    any_goals (first | (refine hK21 _ ?_; clear hK21) | (first | omega | (simp only [IntKind.wrap_i64] at *; omega) | (simp_all; done) | (simp_all; omega)))
    refine swp_seq fun K22 hK22 => ?_
    refine swp_region ty_ok ?_
    refine runs_cut 1 fun R23 hR23 => ?_
    try simp (maxSteps := 1000000) [hv, List.take_succ_cons, List.take_zero, List.drop_succ_cons, List.drop_zero]
    repeat' (first | apply And.intro | intro _)
    any_goals (first | (refine hR23 _ ?_; clear hR23) | (first | omega | (simp only [IntKind.wrap_i64] at *; omega) | (simp_all; done) | (simp_all; omega)))
    refine runs_cut 1 fun R24 hR24 => ?_
    try simp (maxSteps := 1000000) [hv, List.take_succ_cons, List.take_zero, List.drop_succ_cons, List.drop_zero]
    refine .inl ⟨_, hsize_ok v (by omega), ?_⟩
    try simp (maxSteps := 1000000) [hv]
    repeat' (first | apply And.intro | intro _)
    any_goals (first | (refine hR24 _ ?_; clear hR24) | (first | omega | (simp only [IntKind.wrap_i64] at *; omega) | (simp_all; done) | (simp_all; omega)))
    try simp (maxSteps := 1000000) [hv, List.take_succ_cons, List.take_zero, List.drop_succ_cons, List.drop_zero]
    repeat' (first | apply And.intro | intro _)
    any_goals (first | (refine hK22 _ ?_; clear hK22) | (first | omega | (simp only [IntKind.wrap_i64] at *; omega) | (simp_all; done) | (simp_all; omega)))
    refine swp_seq fun K25 hK25 => ?_
    refine swp_seq fun K26 hK26 => ?_
    refine swp_region ty_ok ?_
    try simp (maxSteps := 1000000)
    repeat' (first | apply And.intro | intro _)
    any_goals (first | (refine hK26 _ ?_; clear hK26) | (first | omega | (simp only [IntKind.wrap_i64] at *; omega) | (simp_all; done) | (simp_all; omega)))
    refine swp_if fun C27 hC27 => ?_
    try simp (maxSteps := 1000000)
    refine hC27 _ (fun hc27 => ?_) (fun hc27 => ?_)
    ·clear hC27
     try simp at hc27
     have hv0 : ¬ v = 0 := hc27
     have hS : hS1 v = [if v < 0 then 1 else 0] := by unfold hS1; rw [if_neg hv0]
     have hshr : IntKind.u8.wrap ((IntKind.u64.wrap v).fdiv (2 ^ min 63 IntKind.u64.bits)) = if v < 0 then 1 else 0 := by
      have e0 : ((2 : Int) ^ min 63 IntKind.u64.bits) = 9223372036854775808 := rfl
      rw [e0]
      by_cases hn : v < 0
      ·rw [if_pos hn]
       have e1 : IntKind.u64.wrap v = v + 18446744073709551616 := by show v % 18446744073709551616 = _; omega
       rw [e1, Int.fdiv_eq_ediv_of_nonneg _ (by decide), show (v + 18446744073709551616) / 9223372036854775808 = 1 by omega]; rfl
      ·rw [if_neg hn]
       have e1 : IntKind.u64.wrap v = v := by show v % 18446744073709551616 = _; omega
       rw [e1, Int.fdiv_eq_ediv_of_nonneg _ (by decide), show v / 9223372036854775808 = 0 by omega]; rfl
     refine swp_region ty_ok ?_
     refine runs_cut 5 fun R28 hR28 => ?_
     try simp (maxSteps := 1000000) [hshr, List.take_succ_cons, List.take_zero, List.drop_succ_cons, List.drop_zero]
     repeat' (first | apply And.intro | intro _)
     any_goals (first | (refine hR28 _ ?_; clear hR28) | (first | omega | (simp only [IntKind.wrap_i64] at *; omega) | (simp_all; done) | (simp_all; omega)))
     refine runs_cut 1 fun R29 hR29 => ?_
     try simp (maxSteps := 1000000) [hshr, List.take_succ_cons, List.take_zero, List.drop_succ_cons, List.drop_zero]
     repeat' (first | apply And.intro | intro _)
     any_goals (first | (refine Or.inl (hR29 _ ?_); clear hR29) | (first | omega | (simp only [IntKind.wrap_i64] at *; omega) | (simp_all; done) | (simp_all; omega)))
     try simp (maxSteps := 1000000) [hshr, List.take_succ_cons, List.take_zero, List.drop_succ_cons, List.drop_zero]
     repeat' (first | apply And.intro | intro _)
     any_goals (first | (refine hK25 _ ?_; clear hK25) | (first | omega | (simp only [IntKind.wrap_i64] at *; omega) | (simp_all; done) | (simp_all; omega)))
     refine swp_seq fun K30 hK30 => ?_
     refine swp_seq fun K31 hK31 => ?_
     have hS0 : v = 0 → hS1 v = [] := fun h => by unfold hS1; rw [if_pos h]
     refine swp_region ty_ok ?_
     try simp (maxSteps := 1000000)
     repeat' (first | apply And.intro | intro _)
     any_goals (first | (refine hK31 _ ?_; clear hK31) | (first | omega | (simp only [IntKind.wrap_i64] at *; omega) | (simp_all; done) | (simp_all; omega)))
     refine swp_if fun C32 hC32 => ?_
     try simp (maxSteps := 1000000)
     refine hC32 _ (fun hc32 => ?_) (fun hc32 => ?_)
     ·clear hC32
      try simp at hc32
      refine swp_seq fun K33 hK33 => ?_
      have h16 : 16 ≤ v.natAbs := (by have h := hc32; omega)
      have hfe := esF (v := v) (by omega)
      have hfl := hfe.l
      have hfg := hfe.g h16
      obtain ⟨m, hm⟩ : ∃ m, hM v = m := ⟨_, rfl⟩
      have hm0 : Lib.bitLen v.natAbs - 5 = m := hm
      have huw : IntKind.u64.wrap ((v.natAbs : Nat) : Int) = (v.natAbs : Nat) := by show ((v.natAbs : Nat) : Int) % 18446744073709551616 = _; omega
      have hmw : IntKind.i64.wrap (((Lib.bitLen v.natAbs : Nat) : Int) - 5) = (m : Nat) := by rw [w64 (by omega)]; omega
      have hTy : hT1 i v = 16 := by unfold hT1; rw [if_pos (by omega)]
      have hEy : hE1 i v = List.replicate m 1 ++ (0 :: bitsOf (v.natAbs % 2 ^ (m + 4)) (m + 4)) := by unfold hE1; rw [if_pos (by omega), hm]
      refine swp_region ty_ok ?_
      refine runs_cut 2 fun R34 hR34 => ?_
      try simp (maxSteps := 1000000) [huw, hmw, List.take_succ_cons, List.take_zero, List.drop_succ_cons, List.drop_zero]
      repeat' (first | apply And.intro | intro _)
      any_goals (first | (refine hR34 _ ?_; clear hR34) | (first | omega | (simp only [IntKind.wrap_i64] at *; omega) | (simp_all; done) | (simp_all; omega)))
      refine runs_cut 1 fun R35 hR35 => ?_
      try simp (maxSteps := 1000000) [huw, hmw, List.take_succ_cons, List.take_zero, List.drop_succ_cons, List.drop_zero]
      refine .inl ⟨_, len_ok v.natAbs (by omega), ?_⟩
      try simp (maxSteps := 1000000) [huw, hmw]
      repeat' (first | apply And.intro | intro _)
      any_goals (first | (refine hR35 _ ?_; clear hR35) | (first | omega | (simp only [IntKind.wrap_i64] at *; omega) | (simp_all; done) | (simp_all; omega)))
      try simp (maxSteps := 1000000) [huw, hmw, List.take_succ_cons, List.take_zero, List.drop_succ_cons, List.drop_zero]
      repeat' (first | apply And.intro | intro _)
      any_goals (first | (refine hK33 _ ?_; clear hK33) | (first | omega | (simp only [IntKind.wrap_i64] at *; omega) | (simp_all; done) | (simp_all; omega)))
      refine swp_seq fun K36 hK36 => ?_
      refine swp_region ty_ok ?_
      refine runs_cut 1 fun R37 hR37 => ?_
      try simp (maxSteps := 1000000) [List.take_succ_cons, List.take_zero, List.drop_succ_cons, List.drop_zero]
      repeat' (first | apply And.intro | intro _)
      any_goals (first | (refine hR37 _ ?_; clear hR37) | (first | omega | (simp only [IntKind.wrap_i64] at *; omega) | (simp_all; done) | (simp_all; omega)))
      refine runs_cut 1 fun R38 hR38 => ?_
      try simp (maxSteps := 1000000) [List.take_succ_cons, List.take_zero, List.drop_succ_cons, List.drop_zero]
      repeat' (first | apply And.intro | intro _)
      any_goals (first | (refine Or.inl (hR38 _ ?_); clear hR38) | (first | omega | (simp only [IntKind.wrap_i64] at *; omega) | (simp_all; done) | (simp_all; omega)))
      refine runs_cut 1 fun R39 hR39 => ?_
      try simp (maxSteps := 1000000) [List.take_succ_cons, List.take_zero, List.drop_succ_cons, List.drop_zero]
      repeat' (first | apply And.intro | intro _)
      any_goals (first | (refine hR39 _ ?_; clear hR39) | (first | omega | (simp only [IntKind.wrap_i64] at *; omega) | (simp_all; done) | (simp_all; omega)))
      refine runs_cut 1 fun R40 hR40 => ?_
      try simp (maxSteps := 1000000) [List.take_succ_cons, List.take_zero, List.drop_succ_cons, List.drop_zero]
      refine .inl ⟨_, repeat_ok m (by omega), ?_⟩
      try simp (maxSteps := 1000000)
      repeat' (first | apply And.intro | intro _)
      any_goals (first | (refine hR40 _ ?_; clear hR40) | (first | omega | (simp only [IntKind.wrap_i64] at *; omega) | (simp_all; done) | (simp_all; omega)))
      try simp (maxSteps := 1000000) [List.take_succ_cons, List.take_zero, List.drop_succ_cons, List.drop_zero]
      repeat' (first | apply And.intro | intro _)
      any_goals (first | (refine hK36 _ ?_; clear hK36) | (first | omega | (simp only [IntKind.wrap_i64] at *; omega) | (simp_all; done) | (simp_all; omega)))
      refine swp_seq fun K41 hK41 => ?_
      obtain ⟨q, hq⟩ : ∃ q, v.natAbs % 2 ^ (m + 4) = q := ⟨_, rfl⟩
      obtain ⟨f1, f2⟩ := shlF (m := m) (by omega)
      have hp4 : 0 < 2 ^ (m + 4) := Nat.pow_pos (by omega)
      have hqb : q < 2 ^ (m + 4) := by rw [← hq]; exact Nat.mod_lt _ hp4
      have hm4 : IntKind.i64.wrap ((m : Int) + 4) = (m : Int) + 4 := w64 (by omega)
      have htn : ((m : Int) + 4).toNat = m + 4 := (by omega)
      have hmask := maskF (n := v.natAbs) (m := m) (by omega) (by omega)
      rw [hq] at hmask
      rw [hq] at hEy
      have hputL : putL (hEs i (vs.take k) ++ (List.replicate m 1 ++ [0])) ((q : Nat) : Int) ((m + 4 : Nat) : Int) = hEs i (vs.take (k + 1)) := by
       rw [putL_nat (by omega) hqb, hen, hEy]
       simp
      have hput := put_hL (hEs i (vs.take k) ++ (List.replicate m 1 ++ [0])) (hEs i (vs.take (k + 1))) ((hEs i (vs.take k)).length + m + 1) ((q : Nat) : Int) ((m : Int) + 4) 3 92 (by simp; omega) hputL (by omega) (by omega)
      refine swp_draw ty_ok mixed (ms := [0, 0, 3, 0, 0, 16, 48, 112, 248, 0, 512, 2047, 4095, 8191, 8191, 16383]) (by kernel_rfl) ?_
      refine runD_cut 1 fun R42 hR42 => ?_
      try simp (maxSteps := 1000000) [hm4, htn, f1, hmask, List.take_succ_cons, List.take_zero, List.drop_succ_cons, List.drop_zero]
      repeat' (first | apply And.intro | intro _)
      any_goals (first | (refine hR42 _ _ _ _ ?_; clear hR42) | (first | omega | (simp only [IntKind.wrap_i64] at *; omega) | (simp_all; done) | (simp_all; omega)))
      refine runD_cut 1 fun R43 hR43 => ?_
      try simp (maxSteps := 1000000) [hm4, htn, f1, hmask, List.take_succ_cons, List.take_zero, List.drop_succ_cons, List.drop_zero]
      repeat' (first | apply And.intro | intro _)
      any_goals (first | (refine Or.inl (hR43 _ _ _ _ ?_); clear hR43) | (first | omega | (simp only [IntKind.wrap_i64] at *; omega) | (simp_all; done) | (simp_all; omega)))
      refine runD_cut 9 fun R44 hR44 => ?_
      try simp (maxSteps := 1000000) [hm4, htn, f1, hmask, List.take_succ_cons, List.take_zero, List.drop_succ_cons, List.drop_zero]
      repeat' (first | apply And.intro | intro _)
      any_goals (first | (refine hR44 _ _ _ _ ?_; clear hR44) | (first | omega | (simp only [IntKind.wrap_i64] at *; omega) | (simp_all; done) | (simp_all; omega)))
      refine runD_cut 1 fun R45 hR45 => ?_
      try simp (maxSteps := 1000000) [hm4, htn, f1, hmask, List.take_succ_cons, List.take_zero, List.drop_succ_cons, List.drop_zero]
      refine .inr (hcl_mk (hput) (by simp [PV.ids, id1, getH, Blk.inL, Cells.inL, inL1]) (by simp [PV.inL, inL1]) (by simp) ?_)
      try simp (maxSteps := 1000000) [hm4, htn, f1, hmask]
      repeat' (first | apply And.intro | intro _)
      any_goals (first | (refine hR45 _ _ _ _ ?_; clear hR45) | (first | omega | (simp only [IntKind.wrap_i64] at *; omega) | (simp_all; done) | (simp_all; omega)))
      try simp (maxSteps := 1000000) [hm4, htn, f1, hmask, List.take_succ_cons, List.take_zero, List.drop_succ_cons, List.drop_zero]
      repeat' (first | apply And.intro | intro _)
      any_goals (first | kernel_rfl | (refine hK41 _ ?_; clear hK41) | (first | omega | (simp only [IntKind.wrap_i64] at *; omega) | (simp_all; done) | (simp_all; omega)))
      refine swp_ren 3 92 (by simp) (by simp) (by simp [purB, Cells.pur, pur1]) ?_
      simp [renW, okR, renP, ren2, ren1, leaf2, leafR, sw2, pur1]
      refine swp_region ty_ok ?_
      try simp (maxSteps := 1000000)
      repeat' (first | apply And.intro | intro _)
      any_goals (first | (refine hK30 _ ?_; clear hK30) | (first | omega | (simp only [IntKind.wrap_i64] at *; omega) | (simp_all; done) | (simp_all; omega)))
      first | (have hTn : hT1 i v = v.natAbs := by unfold hT1; rw [if_neg (by omega)]) | skip
      first | (have hEn : hE1 i v = [] := by unfold hE1; rw [if_neg (by omega)]) | skip
      refine swp_region ty_ok ?_
      refine runs_cut 2 fun R47 hR47 => ?_
      try simp (maxSteps := 1000000) [List.take_succ_cons, List.take_zero, List.drop_succ_cons, List.drop_zero]
      repeat' (first | apply And.intro | intro _)
      any_goals (first | (refine hR47 _ ?_; clear hR47) | (first | omega | (simp only [IntKind.wrap_i64] at *; omega) | (simp_all; done) | (simp_all; omega)))
      refine runs_cut 1 fun R48 hR48 => ?_
      try simp (maxSteps := 1000000) [List.take_succ_cons, List.take_zero, List.drop_succ_cons, List.drop_zero]
      repeat' (first | apply And.intro | intro _)
      any_goals (first | (refine Or.inl (hR48 _ ?_); clear hR48) | (first | omega | (simp only [IntKind.wrap_i64] at *; omega) | (simp_all; done) | (simp_all; omega)))
      try simp (maxSteps := 1000000) [List.take_succ_cons, List.take_zero, List.drop_succ_cons, List.drop_zero]
      repeat' (first | apply And.intro | intro _)
      any_goals (first | (refine hK20 _ ?_; clear hK20) | (first | omega | (simp only [IntKind.wrap_i64] at *; omega) | (simp_all; done) | (simp_all; omega)))
      refine swp_region ty_ok ?_
      try simp (maxSteps := 1000000)
      repeat' apply And.intro
      any_goals (try omega)
      refine hL16 _ ⟨[(0, .ro (.ints .u8 b)), (4, .ptr 0 0 0 1), (15, .sl 1 0 (k + 1) (k + 1)), (16, .sl 2 0 (hSg (vs.take (k + 1))).length (hSg (vs.take (k + 1))).length), (17, .sl 3 0 (hEs i (vs.take (k + 1))).length (hEs i (vs.take (k + 1))).length), (69, .ro (.ints .i64 vs)), (70, .int .i64 vs.length), (71, .int .i64 ((k + 1) : Nat))], [(0, some ⟨.rows 4 [[.int .i64 (i : Nat), .int .i64 p, .ro (.ints .i64 es), .ro (.ints .i64 rs)]], true, 25⟩), (1, some ⟨.ints .i64 (hTold i (vs.take (k + 1))), false, 3⟩), (2, some ⟨.ints .u8 (hSg (vs.take (k + 1))), false, 5⟩), (3, some ⟨.ints .u8 (hEs i (vs.take (k + 1))), false, 5⟩)], 4⟩ _ ?_ ⟨(k + 1), by (first | omega | (simp only [IntKind.wrap_i64] at *; omega) | (simp_all; done) | (simp_all; omega)), rfl, rfl⟩ ⟨by first | (simp [getT, PV.lo, lo1, hkw, hsl, hel, hEn]; first | (rw [hS]; rfl) | exact hS0 (by omega)) | (simp [getT, PV.lo, lo1, hkw, hsl]; rw [hS]; rfl), by (simp [getH, Blk.lo, Cells.lo, lo1]; first | (rw [ht, hsn, hTy, hS]; exact ⟨rfl, rfl⟩) | (rw [ht, hsn, hen, hTn, hEn, hS, List.append_nil]; exact ⟨rfl, rfl, rfl⟩) | (rw [ht, hsn, hen, hTn, hEn, hS0 (by omega), List.append_nil, List.append_nil]; exact ⟨rfl, rfl, rfl⟩)), rfl, by omega⟩
      omega
     ·clear hC32
      try simp at hc32
      refine swp_skip ?_
      try simp only [thn, inBlk]
      refine hK30 _ ?_; clear hK30
      first | (have hTn : hT1 i v = v.natAbs := by unfold hT1; rw [if_neg (by omega)]) | skip
      first | (have hEn : hE1 i v = [] := by unfold hE1; rw [if_neg (by omega)]) | skip
      refine swp_region ty_ok ?_
      refine runs_cut 2 fun R49 hR49 => ?_
      try simp (maxSteps := 1000000) [List.take_succ_cons, List.take_zero, List.drop_succ_cons, List.drop_zero]
      repeat' (first | apply And.intro | intro _)
      any_goals (first | (refine hR49 _ ?_; clear hR49) | (first | omega | (simp only [IntKind.wrap_i64] at *; omega) | (simp_all; done) | (simp_all; omega)))
      refine runs_cut 1 fun R50 hR50 => ?_
      try simp (maxSteps := 1000000) [List.take_succ_cons, List.take_zero, List.drop_succ_cons, List.drop_zero]
      repeat' (first | apply And.intro | intro _)
      any_goals (first | (refine Or.inl (hR50 _ ?_); clear hR50) | (first | omega | (simp only [IntKind.wrap_i64] at *; omega) | (simp_all; done) | (simp_all; omega)))
      try simp (maxSteps := 1000000) [List.take_succ_cons, List.take_zero, List.drop_succ_cons, List.drop_zero]
      repeat' (first | apply And.intro | intro _)
      any_goals (first | (refine hK20 _ ?_; clear hK20) | (first | omega | (simp only [IntKind.wrap_i64] at *; omega) | (simp_all; done) | (simp_all; omega)))
      refine swp_region ty_ok ?_
      try simp (maxSteps := 1000000)
      repeat' apply And.intro
      any_goals (try omega)
      refine hL16 _ ⟨[(0, .ro (.ints .u8 b)), (4, .ptr 0 0 0 1), (15, .sl 1 0 (k + 1) (k + 1)), (16, .sl 2 0 (hSg (vs.take (k + 1))).length (hSg (vs.take (k + 1))).length), (17, .sl 3 0 (hEs i (vs.take (k + 1))).length (hEs i (vs.take (k + 1))).length), (69, .ro (.ints .i64 vs)), (70, .int .i64 vs.length), (71, .int .i64 ((k + 1) : Nat))], [(0, some ⟨.rows 4 [[.int .i64 (i : Nat), .int .i64 p, .ro (.ints .i64 es), .ro (.ints .i64 rs)]], true, 25⟩), (1, some ⟨.ints .i64 (hTold i (vs.take (k + 1))), false, 3⟩), (2, some ⟨.ints .u8 (hSg (vs.take (k + 1))), false, 5⟩), (3, some ⟨.ints .u8 (hEs i (vs.take (k + 1))), false, 5⟩)], 4⟩ _ ?_ ⟨(k + 1), by (first | omega | (simp only [IntKind.wrap_i64] at *; omega) | (simp_all; done) | (simp_all; omega)), rfl, rfl⟩ ⟨by first | (simp [getT, PV.lo, lo1, hkw, hsl, hel, hEn]; first | (rw [hS]; rfl) | exact hS0 (by omega)) | (simp [getT, PV.lo, lo1, hkw, hsl]; rw [hS]; rfl), by (simp [getH, Blk.lo, Cells.lo, lo1]; first | (rw [ht, hsn, hTy, hS]; exact ⟨rfl, rfl⟩) | (rw [ht, hsn, hen, hTn, hEn, hS, List.append_nil]; exact ⟨rfl, rfl, rfl⟩) | (rw [ht, hsn, hen, hTn, hEn, hS0 (by omega), List.append_nil, List.append_nil]; exact ⟨rfl, rfl, rfl⟩)), rfl, by omega⟩
      omega
    ·clear hC27
     try simp at hc27
     refine swp_skip ?_
     try simp only [thn, inBlk]
     refine hK25 _ ?_; clear hK25
     refine swp_seq fun K51 hK51 => ?_
     refine swp_seq fun K52 hK52 => ?_
     have hS0 : v = 0 → hS1 v = [] := fun h => by unfold hS1; rw [if_pos h]
     refine swp_region ty_ok ?_
     try simp (maxSteps := 1000000)
     repeat' (first | apply And.intro | intro _)
     any_goals (first | (refine hK52 _ ?_; clear hK52) | (first | omega | (simp only [IntKind.wrap_i64] at *; omega) | (simp_all; done) | (simp_all; omega)))
     refine swp_if fun C53 hC53 => ?_
     try simp (maxSteps := 1000000)
     refine hC53 _ (fun hc53 => ?_) (fun hc53 => ?_)
     ·exfalso
      have h := hc53
      first | (simp [h11] at h; done) | (simp at h; omega)
     ·clear hC53
      try simp at hc53
      refine swp_skip ?_
      try simp only [thn, inBlk]
      refine hK51 _ ?_; clear hK51
      first | (have hTn : hT1 i v = v.natAbs := by unfold hT1; rw [if_neg (by omega)]) | skip
      first | (have hEn : hE1 i v = [] := by unfold hE1; rw [if_neg (by omega)]) | skip
      refine swp_region ty_ok ?_
      refine runs_cut 2 fun R54 hR54 => ?_
      try simp (maxSteps := 1000000) [List.take_succ_cons, List.take_zero, List.drop_succ_cons, List.drop_zero]
      repeat' (first | apply And.intro | intro _)
      any_goals (first | (refine hR54 _ ?_; clear hR54) | (first | omega | (simp only [IntKind.wrap_i64] at *; omega) | (simp_all; done) | (simp_all; omega)))
      refine runs_cut 1 fun R55 hR55 => ?_
      try simp (maxSteps := 1000000) [List.take_succ_cons, List.take_zero, List.drop_succ_cons, List.drop_zero]
      repeat' (first | apply And.intro | intro _)
      any_goals (first | (refine Or.inl (hR55 _ ?_); clear hR55) | (first | omega | (simp only [IntKind.wrap_i64] at *; omega) | (simp_all; done) | (simp_all; omega)))
      try simp (maxSteps := 1000000) [List.take_succ_cons, List.take_zero, List.drop_succ_cons, List.drop_zero]
      repeat' (first | apply And.intro | intro _)
      any_goals (first | (refine hK20 _ ?_; clear hK20) | (first | omega | (simp only [IntKind.wrap_i64] at *; omega) | (simp_all; done) | (simp_all; omega)))
      refine swp_region ty_ok ?_
      try simp (maxSteps := 1000000)
      repeat' apply And.intro
      any_goals (try omega)
      refine hL16 _ ⟨[(0, .ro (.ints .u8 b)), (4, .ptr 0 0 0 1), (15, .sl 1 0 (k + 1) (k + 1)), (16, .sl 2 0 (hSg (vs.take (k + 1))).length (hSg (vs.take (k + 1))).length), (17, .sl 3 0 (hEs i (vs.take (k + 1))).length (hEs i (vs.take (k + 1))).length), (69, .ro (.ints .i64 vs)), (70, .int .i64 vs.length), (71, .int .i64 ((k + 1) : Nat))], [(0, some ⟨.rows 4 [[.int .i64 (i : Nat), .int .i64 p, .ro (.ints .i64 es), .ro (.ints .i64 rs)]], true, 25⟩), (1, some ⟨.ints .i64 (hTold i (vs.take (k + 1))), false, 3⟩), (2, some ⟨.ints .u8 (hSg (vs.take (k + 1))), false, 5⟩), (3, some ⟨.ints .u8 (hEs i (vs.take (k + 1))), false, 5⟩)], 4⟩ _ ?_ ⟨(k + 1), by (first | omega | (simp only [IntKind.wrap_i64] at *; omega) | (simp_all; done) | (simp_all; omega)), rfl, rfl⟩ ⟨by first | (simp [getT, PV.lo, lo1, hkw, hsl, hel, hEn]; first | (rw [hS]; rfl) | exact hS0 (by omega)) | (simp [getT, PV.lo, lo1, hkw, hsl]; rw [hS]; rfl), by (simp [getH, Blk.lo, Cells.lo, lo1]; first | (rw [ht, hsn, hTy, hS]; exact ⟨rfl, rfl⟩) | (rw [ht, hsn, hen, hTn, hEn, hS, List.append_nil]; exact ⟨rfl, rfl, rfl⟩) | (rw [ht, hsn, hen, hTn, hEn, hS0 (by omega), List.append_nil, List.append_nil]; exact ⟨rfl, rfl, rfl⟩)), rfl, by omega⟩
      omega
   ·clear hC19
    try simp at hc19
    refine swp_exit ?_
    simp [thn, inBlk]
    refine hK14 _ ?_; clear hK14
    refine swp_seq fun K56 hK56 => ?_
    have hke : k = vs.length := (by omega)
    subst hke
    have htl0 := told_len i vs
    refine swp_region ty_ok ?_
    refine runs_cut 3 fun R57 hR57 => ?_
    try simp (maxSteps := 1000000) [htl0, List.take_length, List.take_succ_cons, List.take_zero, List.drop_succ_cons, List.drop_zero]
    repeat' (first | apply And.intro | intro _)
    any_goals (first | (refine hR57 _ ?_; clear hR57) | (first | omega | (simp only [IntKind.wrap_i64] at *; omega) | (simp_all; done) | (simp_all; omega)))
    refine runs_cut 1 fun R58 hR58 => ?_
    try simp (maxSteps := 1000000) [htl0, List.take_length, List.take_succ_cons, List.take_zero, List.drop_succ_cons, List.drop_zero]
    refine .inl ⟨_, hent, ?_⟩
    try simp (maxSteps := 1000000) [htl0, List.take_length]
    repeat' (first | apply And.intro | intro _)
    any_goals (first | (refine hR58 _ ?_; clear hR58) | (first | omega | (simp only [IntKind.wrap_i64] at *; omega) | (simp_all; done) | (simp_all; omega)))
    try simp (maxSteps := 1000000) [htl0, List.take_length, List.take_succ_cons, List.take_zero, List.drop_succ_cons, List.drop_zero]
    repeat' (first | apply And.intro | intro _)
    any_goals (first | (refine hK56 _ ?_; clear hK56) | (first | omega | (simp only [IntKind.wrap_i64] at *; omega) | (simp_all; done) | (simp_all; omega)))
    refine swp_seq fun K59 hK59 => ?_
    refine swp_region ty_ok ?_
    refine runs_cut 2 fun R60 hR60 => ?_
    try simp (maxSteps := 1000000) [List.take_succ_cons, List.take_zero, List.drop_succ_cons, List.drop_zero]
    repeat' (first | apply And.intro | intro _)
    any_goals (first | (refine hR60 _ ?_; clear hR60) | (first | omega | (simp only [IntKind.wrap_i64] at *; omega) | (simp_all; done) | (simp_all; omega)))
    refine runs_cut 1 fun R61 hR61 => ?_
    try simp (maxSteps := 1000000) [List.take_succ_cons, List.take_zero, List.drop_succ_cons, List.drop_zero]
    refine .inl ⟨_, hcode, ?_⟩
    try simp (maxSteps := 1000000)
    repeat' (first | apply And.intro | intro _)
    any_goals (first | (refine hR61 _ ?_; clear hR61) | (first | omega | (simp only [IntKind.wrap_i64] at *; omega) | (simp_all; done) | (simp_all; omega)))
    try simp (maxSteps := 1000000) [List.take_succ_cons, List.take_zero, List.drop_succ_cons, List.drop_zero]
    repeat' (first | apply And.intro | intro _)
    any_goals (first | (refine hK59 _ ?_; clear hK59) | (first | omega | (simp only [IntKind.wrap_i64] at *; omega) | (simp_all; done) | (simp_all; omega)))
    refine swp_seq fun K62 hK62 => ?_
    refine swp_seq fun K63 hK63 => ?_
    refine swp_region ty_ok ?_
    try simp (maxSteps := 1000000)
    repeat' (first | apply And.intro | intro _)
    any_goals (first | (refine hK63 _ ?_; clear hK63) | (first | omega | (simp only [IntKind.wrap_i64] at *; omega) | (simp_all; done) | (simp_all; omega)))
    refine swp_if fun C64 hC64 => ?_
    try simp (maxSteps := 1000000)
    refine hC64 _ (fun hc64 => ?_) (fun hc64 => ?_)
    ·exact absurd hc64 (by simp)
    ·clear hC64
     try simp at hc64
     refine swp_skip ?_
     try simp only [thn, inBlk]
     refine hK62 _ ?_; clear hK62
     refine swp_seq fun K65 hK65 => ?_
     refine swp_region ty_ok ?_
     refine runs_cut 4 fun R66 hR66 => ?_
     try simp (maxSteps := 1000000) [List.take_succ_cons, List.take_zero, List.drop_succ_cons, List.drop_zero]
     repeat' (first | apply And.intro | intro _)
     any_goals (first | (refine hR66 _ ?_; clear hR66) | (first | omega | (simp only [IntKind.wrap_i64] at *; omega) | (simp_all; done) | (simp_all; omega)))
     refine runs_cut 1 fun R67 hR67 => ?_
     try simp (maxSteps := 1000000) [List.take_succ_cons, List.take_zero, List.drop_succ_cons, List.drop_zero]
     repeat' (first | apply And.intro | intro _)
     any_goals (first | (refine Or.inl (hR67 _ ?_); clear hR67) | (first | omega | (simp only [IntKind.wrap_i64] at *; omega) | (simp_all; done) | (simp_all; omega)))
     refine runs_cut 1 fun R68 hR68 => ?_
     try simp (maxSteps := 1000000) [List.take_succ_cons, List.take_zero, List.drop_succ_cons, List.drop_zero]
     refine .inl ⟨_, cc4 b C (hSg vs) (hEs i vs) hb (by omega) (by have := sg_len vs; omega) (by have := es_len (i := i) (vs := vs) (fun w hw => ⟨(fit_bd h1 h2 hf hw).2.2.1, (fit_bd h1 h2 hf hw).2.2.2⟩); omega), ?_⟩
     try simp (maxSteps := 1000000)
     repeat' (first | apply And.intro | intro _)
     any_goals (first | (refine hR68 _ ?_; clear hR68) | (first | omega | (simp only [IntKind.wrap_i64] at *; omega) | (simp_all; done) | (simp_all; omega)))
     try simp (maxSteps := 1000000) [List.take_succ_cons, List.take_zero, List.drop_succ_cons, List.drop_zero]
     repeat' (first | apply And.intro | intro _)
     any_goals (first | (refine hK65 _ ?_; clear hK65) | (first | omega | (simp only [IntKind.wrap_i64] at *; omega) | (simp_all; done) | (simp_all; omega)))
     refine swp_ret ?_
     simp [fnPost, Try.results15, resP, tupOf]

set_option maxHeartbeats 8000000 in
theorem putU_no_e (i : Nat) (h1 : 1 ≤ i) (h2 : i ≤ 11) (p : Int) (es rs : List Int) (b vs C : List Int) (E : Int) (hd : vs.length = bDim i) (hf : hFit i vs = true) (hcode : PCall Try.prog 45 [.agg [.int .i64 (i : Nat), .int .i64 p, .ro (.ints .i64 es), .ro (.ints .i64 rs)], .int .i64 (entN i (hTold i vs) : Nat)] (.tup [.ro (.ints .u8 C), .int .i64 E])) (hE : E = 8) (hs : hSig i = false) (h11 : i = 11)  : PCall Try.prog 15 [.ro (.ints .u8 b), .agg [.int .i64 (i : Nat), .int .i64 p, .ro (.ints .i64 es), .ro (.ints .i64 rs)], .ro (.ints .i64 vs)] (.tup [.ro (.ints .u8 []), .int .i64 8]) := by
 have hF := hkF h1 h2
 have hFd := hF.d
 have hvl : vs.length ≤ 4 := by rw [hd, hFd]; split <;> omega
 subst hE
 obtain ⟨k1, k2, k3⟩ := told_ent h1 h2 hd hf hs
 have hent := ent_ok i h1 (by omega) (hTold i vs)
 rw [k1, k2] at hent
 refine pcall_body ty_ok Try.func15 rfl (by rfl) (by simp) ?_
 rw [Try.ntmps15]
 refine swp_seq fun K1 hK1 => ?_
 refine swp_region ty_ok ?_
 try simp (maxSteps := 1000000)
 repeat' (first | apply And.intro | intro _)
 any_goals (first | (refine hK1 _ ?_; clear hK1) | (first | omega | (simp only [IntKind.wrap_i64] at *; omega) | (simp_all; done) | (simp_all; omega)))
 refine swp_seq fun K2 hK2 => ?_
 refine swp_region ty_ok ?_
 refine runs_cut 3 fun R3 hR3 => ?_
 try simp (maxSteps := 1000000) [List.take_succ_cons, List.take_zero, List.drop_succ_cons, List.drop_zero]
 repeat' (first | apply And.intro | intro _)
 any_goals (first | (refine hR3 _ ?_; clear hR3) | (first | omega | (simp only [IntKind.wrap_i64] at *; omega) | (simp_all; done) | (simp_all; omega)))
 refine runs_cut 1 fun R4 hR4 => ?_
 try simp (maxSteps := 1000000) [List.take_succ_cons, List.take_zero, List.drop_succ_cons, List.drop_zero]
 refine .inl ⟨_, fits_ok i h1 h2 vs hd, ?_⟩
 try simp (maxSteps := 1000000)
 repeat' (first | apply And.intro | intro _)
 any_goals (first | (refine hR4 _ ?_; clear hR4) | (first | omega | (simp only [IntKind.wrap_i64] at *; omega) | (simp_all; done) | (simp_all; omega)))
 try simp (maxSteps := 1000000) [List.take_succ_cons, List.take_zero, List.drop_succ_cons, List.drop_zero]
 repeat' (first | apply And.intro | intro _)
 any_goals (first | (refine hK2 _ ?_; clear hK2) | (first | omega | (simp only [IntKind.wrap_i64] at *; omega) | (simp_all; done) | (simp_all; omega)))
 refine swp_seq fun K5 hK5 => ?_
 refine swp_seq fun K6 hK6 => ?_
 refine swp_region ty_ok ?_
 try simp (maxSteps := 1000000) [hf]
 repeat' (first | apply And.intro | intro _)
 any_goals (first | (refine hK6 _ ?_; clear hK6) | (first | omega | (simp only [IntKind.wrap_i64] at *; omega) | (simp_all; done) | (simp_all; omega)))
 refine swp_if fun C7 hC7 => ?_
 try simp (maxSteps := 1000000) [hf]
 refine hC7 _ (fun hc7 => ?_) (fun hc7 => ?_)
 ·exact absurd hc7 (by simp [hf])
 ·clear hC7
  try simp at hc7
  refine swp_skip ?_
  try simp only [thn, inBlk]
  refine hK5 _ ?_; clear hK5
  refine swp_seq fun K8 hK8 => ?_
  refine swp_seq fun K9 hK9 => ?_
  refine swp_region ty_ok ?_
  refine runs_cut 2 fun R10 hR10 => ?_
  try simp (maxSteps := 1000000) [hs, List.take_succ_cons, List.take_zero, List.drop_succ_cons, List.drop_zero]
  repeat' (first | apply And.intro | intro _)
  any_goals (first | (refine hR10 _ ?_; clear hR10) | (first | omega | (simp only [IntKind.wrap_i64] at *; omega) | (simp_all; done) | (simp_all; omega)))
  try simp (maxSteps := 1000000) [hs, List.take_succ_cons, List.take_zero, List.drop_succ_cons, List.drop_zero]
  refine .inl ⟨_, signed_ok i, ?_⟩
  try simp (maxSteps := 1000000) [hs]
  repeat' (first | apply And.intro | intro _)
  any_goals (first | (refine hK9 _ ?_; clear hK9) | (first | omega | (simp only [IntKind.wrap_i64] at *; omega) | (simp_all; done) | (simp_all; omega)))
  refine swp_if fun C11 hC11 => ?_
  try simp (maxSteps := 1000000) [hs]
  refine hC11 _ (fun hc11 => ?_) (fun hc11 => ?_)
  ·exact absurd hc11 (by simp [hs])
  ·clear hC11
   try simp at hc11
   refine swp_skip ?_
   try simp only [thn, inBlk]
   refine hK8 _ ?_; clear hK8
   refine swp_seq fun K12 hK12 => ?_
   refine swp_region ty_ok ?_
   try simp (maxSteps := 1000000)
   repeat' (first | apply And.intro | intro _)
   any_goals (first | (refine hK12 _ ?_; clear hK12) | (first | omega | (simp only [IntKind.wrap_i64] at *; omega) | (simp_all; done) | (simp_all; omega)))
   refine swp_seq fun K13 hK13 => ?_
   refine swp_region ty_ok ?_
   try simp (maxSteps := 1000000)
   repeat' (first | apply And.intro | intro _)
   any_goals (first | (refine hK13 _ ?_; clear hK13) | (first | omega | (simp only [IntKind.wrap_i64] at *; omega) | (simp_all; done) | (simp_all; omega)))
   refine swp_seq fun K14 hK14 => ?_
   refine swp_seq fun K15 hK15 => ?_
   refine swp_region ty_ok ?_
   try simp (maxSteps := 1000000)
   repeat' (first | apply And.intro | intro _)
   any_goals (first | (refine hK15 _ ?_; clear hK15) | (first | omega | (simp only [IntKind.wrap_i64] at *; omega) | (simp_all; done) | (simp_all; omega)))
   refine swp_block ?_
   refine swp_own 15 3 (by simp [getT]; rfl) rfl ?_
   refine swp_own 16 5 (by simp [getT]; rfl) rfl ?_
   refine swp_own 17 5 (by simp [getT]; rfl) rfl ?_
   refine swp_loop 4 (fun m_ s_ => ∃ (k : Nat), (k ≤ vs.length) ∧ s_ = ⟨[(0, .ro (.ints .u8 b)), (4, .ptr 0 0 0 1), (15, .sl 1 0 k k), (16, .sl 2 0 (hSg (vs.take k)).length (hSg (vs.take k)).length), (17, .sl 3 0 (hEs i (vs.take k)).length (hEs i (vs.take k)).length), (69, .ro (.ints .i64 vs)), (70, .int .i64 vs.length), (71, .int .i64 (k : Nat))], [(0, some ⟨.rows 4 [[.int .i64 (i : Nat), .int .i64 p, .ro (.ints .i64 es), .ro (.ints .i64 rs)]], true, 25⟩), (1, some ⟨.ints .i64 (hTold i (vs.take k)), false, 3⟩), (2, some ⟨.ints .u8 (hSg (vs.take k)), false, 5⟩), (3, some ⟨.ints .u8 (hEs i (vs.take k)), false, 5⟩)], 4⟩ ∧ m_ = vs.length - k) _ ⟨[(0, .ro (.ints .u8 b)), (4, .ptr 0 0 0 1), (15, .sl 1 0 0 0), (16, .sl 2 0 (hSg (vs.take 0)).length (hSg (vs.take 0)).length), (17, .sl 3 0 (hEs i (vs.take 0)).length (hEs i (vs.take 0)).length), (69, .ro (.ints .i64 vs)), (70, .int .i64 vs.length), (71, .int .i64 (0 : Nat))], [(0, some ⟨.rows 4 [[.int .i64 (i : Nat), .int .i64 p, .ro (.ints .i64 es), .ro (.ints .i64 rs)]], true, 25⟩), (1, some ⟨.ints .i64 (hTold i (vs.take 0)), false, 3⟩), (2, some ⟨.ints .u8 (hSg (vs.take 0)), false, 5⟩), (3, some ⟨.ints .u8 (hEs i (vs.take 0)), false, 5⟩)], 4⟩ ⟨by simp [getT, PV.lo, lo1, hTold, hSg, hEs], by simp [getH, Blk.lo, Cells.lo, lo1, hTold, hSg, hEs], rfl, by omega⟩ ⟨(0), by (first | omega | (simp only [IntKind.wrap_i64] at *; omega) | (simp_all; done) | (simp_all; omega)), rfl, rfl⟩ ?_
   rintro m_ s_ ⟨k, hL16_0, rfl, rfl⟩ KL16 hL16
   have hkw := wnext (i := k) (by omega)
   refine swp_seq fun K17 hK17 => ?_
   refine swp_region ty_ok ?_
   try simp (maxSteps := 1000000)
   repeat' (first | apply And.intro | intro _)
   any_goals (first | (refine hK17 _ ?_; clear hK17) | (first | omega | (simp only [IntKind.wrap_i64] at *; omega) | (simp_all; done) | (simp_all; omega)))
   refine swp_seq fun K18 hK18 => ?_
   refine swp_if fun C19 hC19 => ?_
   try simp (maxSteps := 1000000)
   refine hC19 _ (fun hc19 => ?_) (fun hc19 => ?_)
   ·clear hC19
    try simp at hc19
    refine swp_skip ?_
    try simp only [thn, inBlk]
    refine hK18 _ ?_; clear hK18
    refine swp_seq fun K20 hK20 => ?_
    refine swp_block ?_
    refine swp_seq fun K21 hK21 => ?_
    have hkl : k < vs.length := (by have h := hc19; omega)
    obtain ⟨v, hv⟩ : ∃ v, vs[k]?.getD 0 = v := ⟨_, rfl⟩
    have hmem : v ∈ vs := by rw [← hv, List.getElem?_eq_getElem hkl]; exact List.getElem_mem hkl
    have hvb := fit_bd h1 h2 hf hmem
    have ht := told_snoc (i := i) hkl
    have hsn := sg_snoc hkl
    have hen := es_snoc (i := i) hkl
    rw [hv] at ht hsn hen
    have htl : (hTold i (vs.take (k + 1))).length = k + 1 := by rw [told_len, List.length_take]; omega
    have hslk : (hSg (vs.take k)).length ≤ 4 := by have := sg_len (vs.take k); rw [List.length_take] at this; omega
    have helk : (hEs i (vs.take k)).length ≤ 84 := by have := es_len (i := i) (vs := vs.take k) (fun w hw => ⟨(fit_bd h1 h2 hf (List.mem_of_mem_take hw)).2.2.1, (fit_bd h1 h2 hf (List.mem_of_mem_take hw)).2.2.2⟩); rw [List.length_take] at this; omega
    have hsl : (hSg (vs.take (k + 1))).length = (hSg (vs.take k)).length + (hS1 v).length := by rw [hsn, List.length_append]
    have hel : (hEs i (vs.take (k + 1))).length = (hEs i (vs.take k)).length + (hE1 i v).length := by rw [hen, List.length_append]
    have htlk : (hTold i (vs.take k)).length = k := by rw [told_len, List.length_take]; omega
    refine swp_region ty_ok ?_
    try simp (maxSteps := 1000000)
    repeat' (first | apply And.intro | intro _)
    any_goals (first | (refine hK21 _ ?_; clear hK21) | (first | omega | (simp only [IntKind.wrap_i64] at *; omega) | (simp_all; done) | (simp_all; omega)))
    refine swp_seq fun K22 hK22 => ?_
    refine swp_region ty_ok ?_
    refine runs_cut 1 fun R23 hR23 => ?_
    try simp (maxSteps := 1000000) [hv, List.take_succ_cons, List.take_zero, List.drop_succ_cons, List.drop_zero]
    repeat' (first | apply And.intro | intro _)
    any_goals (first | (refine hR23 _ ?_; clear hR23) | (first | omega | (simp only [IntKind.wrap_i64] at *; omega) | (simp_all; done) | (simp_all; omega)))
    refine runs_cut 1 fun R24 hR24 => ?_
    try simp (maxSteps := 1000000) [hv, List.take_succ_cons, List.take_zero, List.drop_succ_cons, List.drop_zero]
    refine .inl ⟨_, hsize_ok v (by omega), ?_⟩
    try simp (maxSteps := 1000000) [hv]
    repeat' (first | apply And.intro | intro _)
    any_goals (first | (refine hR24 _ ?_; clear hR24) | (first | omega | (simp only [IntKind.wrap_i64] at *; omega) | (simp_all; done) | (simp_all; omega)))
    try simp (maxSteps := 1000000) [hv, List.take_succ_cons, List.take_zero, List.drop_succ_cons, List.drop_zero]
    repeat' (first | apply And.intro | intro _)
    any_goals (first | (refine hK22 _ ?_; clear hK22) | (first | omega | (simp only [IntKind.wrap_i64] at *; omega) | (simp_all; done) | (simp_all; omega)))
    refine swp_seq fun K25 hK25 => ?_
    refine swp_seq fun K26 hK26 => ?_
    refine swp_region ty_ok ?_
    try simp (maxSteps := 1000000)
    repeat' (first | apply And.intro | intro _)
    any_goals (first | (refine hK26 _ ?_; clear hK26) | (first | omega | (simp only [IntKind.wrap_i64] at *; omega) | (simp_all; done) | (simp_all; omega)))
    refine swp_if fun C27 hC27 => ?_
    try simp (maxSteps := 1000000)
    refine hC27 _ (fun hc27 => ?_) (fun hc27 => ?_)
    ·clear hC27
     try simp at hc27
     have hv0 : ¬ v = 0 := hc27
     have hS : hS1 v = [if v < 0 then 1 else 0] := by unfold hS1; rw [if_neg hv0]
     have hshr : IntKind.u8.wrap ((IntKind.u64.wrap v).fdiv (2 ^ min 63 IntKind.u64.bits)) = if v < 0 then 1 else 0 := by
      have e0 : ((2 : Int) ^ min 63 IntKind.u64.bits) = 9223372036854775808 := rfl
      rw [e0]
      by_cases hn : v < 0
      ·rw [if_pos hn]
       have e1 : IntKind.u64.wrap v = v + 18446744073709551616 := by show v % 18446744073709551616 = _; omega
       rw [e1, Int.fdiv_eq_ediv_of_nonneg _ (by decide), show (v + 18446744073709551616) / 9223372036854775808 = 1 by omega]; rfl
      ·rw [if_neg hn]
       have e1 : IntKind.u64.wrap v = v := by show v % 18446744073709551616 = _; omega
       rw [e1, Int.fdiv_eq_ediv_of_nonneg _ (by decide), show v / 9223372036854775808 = 0 by omega]; rfl
     refine swp_region ty_ok ?_
     refine runs_cut 5 fun R28 hR28 => ?_
     try simp (maxSteps := 1000000) [hshr, List.take_succ_cons, List.take_zero, List.drop_succ_cons, List.drop_zero]
     repeat' (first | apply And.intro | intro _)
     any_goals (first | (refine hR28 _ ?_; clear hR28) | (first | omega | (simp only [IntKind.wrap_i64] at *; omega) | (simp_all; done) | (simp_all; omega)))
     refine runs_cut 1 fun R29 hR29 => ?_
     try simp (maxSteps := 1000000) [hshr, List.take_succ_cons, List.take_zero, List.drop_succ_cons, List.drop_zero]
     repeat' (first | apply And.intro | intro _)
     any_goals (first | (refine Or.inl (hR29 _ ?_); clear hR29) | (first | omega | (simp only [IntKind.wrap_i64] at *; omega) | (simp_all; done) | (simp_all; omega)))
     try simp (maxSteps := 1000000) [hshr, List.take_succ_cons, List.take_zero, List.drop_succ_cons, List.drop_zero]
     repeat' (first | apply And.intro | intro _)
     any_goals (first | (refine hK25 _ ?_; clear hK25) | (first | omega | (simp only [IntKind.wrap_i64] at *; omega) | (simp_all; done) | (simp_all; omega)))
     refine swp_seq fun K30 hK30 => ?_
     refine swp_seq fun K31 hK31 => ?_
     have hS0 : v = 0 → hS1 v = [] := fun h => by unfold hS1; rw [if_pos h]
     refine swp_region ty_ok ?_
     try simp (maxSteps := 1000000)
     repeat' (first | apply And.intro | intro _)
     any_goals (first | (refine hK31 _ ?_; clear hK31) | (first | omega | (simp only [IntKind.wrap_i64] at *; omega) | (simp_all; done) | (simp_all; omega)))
     refine swp_if fun C32 hC32 => ?_
     try simp (maxSteps := 1000000)
     refine hC32 _ (fun hc32 => ?_) (fun hc32 => ?_)
     ·clear hC32
      try simp at hc32
      refine swp_seq fun K33 hK33 => ?_
      have h16 : 16 ≤ v.natAbs := (by have h := hc32; omega)
      have hfe := esF (v := v) (by omega)
      have hfl := hfe.l
      have hfg := hfe.g h16
      obtain ⟨m, hm⟩ : ∃ m, hM v = m := ⟨_, rfl⟩
      have hm0 : Lib.bitLen v.natAbs - 5 = m := hm
      have huw : IntKind.u64.wrap ((v.natAbs : Nat) : Int) = (v.natAbs : Nat) := by show ((v.natAbs : Nat) : Int) % 18446744073709551616 = _; omega
      have hmw : IntKind.i64.wrap (((Lib.bitLen v.natAbs : Nat) : Int) - 5) = (m : Nat) := by rw [w64 (by omega)]; omega
      have hTy : hT1 i v = 16 := by unfold hT1; rw [if_pos (by omega)]
      have hEy : hE1 i v = List.replicate m 1 ++ (0 :: bitsOf (v.natAbs % 2 ^ (m + 4)) (m + 4)) := by unfold hE1; rw [if_pos (by omega), hm]
      refine swp_region ty_ok ?_
      refine runs_cut 2 fun R34 hR34 => ?_
      try simp (maxSteps := 1000000) [huw, hmw, List.take_succ_cons, List.take_zero, List.drop_succ_cons, List.drop_zero]
      repeat' (first | apply And.intro | intro _)
      any_goals (first | (refine hR34 _ ?_; clear hR34) | (first | omega | (simp only [IntKind.wrap_i64] at *; omega) | (simp_all; done) | (simp_all; omega)))
      refine runs_cut 1 fun R35 hR35 => ?_
      try simp (maxSteps := 1000000) [huw, hmw, List.take_succ_cons, List.take_zero, List.drop_succ_cons, List.drop_zero]
      refine .inl ⟨_, len_ok v.natAbs (by omega), ?_⟩
      try simp (maxSteps := 1000000) [huw, hmw]
      repeat' (first | apply And.intro | intro _)
      any_goals (first | (refine hR35 _ ?_; clear hR35) | (first | omega | (simp only [IntKind.wrap_i64] at *; omega) | (simp_all; done) | (simp_all; omega)))
      try simp (maxSteps := 1000000) [huw, hmw, List.take_succ_cons, List.take_zero, List.drop_succ_cons, List.drop_zero]
      repeat' (first | apply And.intro | intro _)
      any_goals (first | (refine hK33 _ ?_; clear hK33) | (first | omega | (simp only [IntKind.wrap_i64] at *; omega) | (simp_all; done) | (simp_all; omega)))
      refine swp_seq fun K36 hK36 => ?_
      refine swp_region ty_ok ?_
      refine runs_cut 1 fun R37 hR37 => ?_
      try simp (maxSteps := 1000000) [List.take_succ_cons, List.take_zero, List.drop_succ_cons, List.drop_zero]
      repeat' (first | apply And.intro | intro _)
      any_goals (first | (refine hR37 _ ?_; clear hR37) | (first | omega | (simp only [IntKind.wrap_i64] at *; omega) | (simp_all; done) | (simp_all; omega)))
      refine runs_cut 1 fun R38 hR38 => ?_
      try simp (maxSteps := 1000000) [List.take_succ_cons, List.take_zero, List.drop_succ_cons, List.drop_zero]
      repeat' (first | apply And.intro | intro _)
      any_goals (first | (refine Or.inl (hR38 _ ?_); clear hR38) | (first | omega | (simp only [IntKind.wrap_i64] at *; omega) | (simp_all; done) | (simp_all; omega)))
      refine runs_cut 1 fun R39 hR39 => ?_
      try simp (maxSteps := 1000000) [List.take_succ_cons, List.take_zero, List.drop_succ_cons, List.drop_zero]
      repeat' (first | apply And.intro | intro _)
      any_goals (first | (refine hR39 _ ?_; clear hR39) | (first | omega | (simp only [IntKind.wrap_i64] at *; omega) | (simp_all; done) | (simp_all; omega)))
      refine runs_cut 1 fun R40 hR40 => ?_
      try simp (maxSteps := 1000000) [List.take_succ_cons, List.take_zero, List.drop_succ_cons, List.drop_zero]
      refine .inl ⟨_, repeat_ok m (by omega), ?_⟩
      try simp (maxSteps := 1000000)
      repeat' (first | apply And.intro | intro _)
      any_goals (first | (refine hR40 _ ?_; clear hR40) | (first | omega | (simp only [IntKind.wrap_i64] at *; omega) | (simp_all; done) | (simp_all; omega)))
      try simp (maxSteps := 1000000) [List.take_succ_cons, List.take_zero, List.drop_succ_cons, List.drop_zero]
      repeat' (first | apply And.intro | intro _)
      any_goals (first | (refine hK36 _ ?_; clear hK36) | (first | omega | (simp only [IntKind.wrap_i64] at *; omega) | (simp_all; done) | (simp_all; omega)))
      refine swp_seq fun K41 hK41 => ?_
      obtain ⟨q, hq⟩ : ∃ q, v.natAbs % 2 ^ (m + 4) = q := ⟨_, rfl⟩
      obtain ⟨f1, f2⟩ := shlF (m := m) (by omega)
      have hp4 : 0 < 2 ^ (m + 4) := Nat.pow_pos (by omega)
      have hqb : q < 2 ^ (m + 4) := by rw [← hq]; exact Nat.mod_lt _ hp4
      have hm4 : IntKind.i64.wrap ((m : Int) + 4) = (m : Int) + 4 := w64 (by omega)
      have htn : ((m : Int) + 4).toNat = m + 4 := (by omega)
      have hmask := maskF (n := v.natAbs) (m := m) (by omega) (by omega)
      rw [hq] at hmask
      rw [hq] at hEy
      have hputL : putL (hEs i (vs.take k) ++ (List.replicate m 1 ++ [0])) ((q : Nat) : Int) ((m + 4 : Nat) : Int) = hEs i (vs.take (k + 1)) := by
       rw [putL_nat (by omega) hqb, hen, hEy]
       simp
      have hput := put_hL (hEs i (vs.take k) ++ (List.replicate m 1 ++ [0])) (hEs i (vs.take (k + 1))) ((hEs i (vs.take k)).length + m + 1) ((q : Nat) : Int) ((m : Int) + 4) 3 92 (by simp; omega) hputL (by omega) (by omega)
      refine swp_draw ty_ok mixed (ms := [0, 0, 3, 0, 0, 16, 48, 112, 248, 0, 512, 2047, 4095, 8191, 8191, 16383]) (by kernel_rfl) ?_
      refine runD_cut 1 fun R42 hR42 => ?_
      try simp (maxSteps := 1000000) [hm4, htn, f1, hmask, List.take_succ_cons, List.take_zero, List.drop_succ_cons, List.drop_zero]
      repeat' (first | apply And.intro | intro _)
      any_goals (first | (refine hR42 _ _ _ _ ?_; clear hR42) | (first | omega | (simp only [IntKind.wrap_i64] at *; omega) | (simp_all; done) | (simp_all; omega)))
      refine runD_cut 1 fun R43 hR43 => ?_
      try simp (maxSteps := 1000000) [hm4, htn, f1, hmask, List.take_succ_cons, List.take_zero, List.drop_succ_cons, List.drop_zero]
      repeat' (first | apply And.intro | intro _)
      any_goals (first | (refine Or.inl (hR43 _ _ _ _ ?_); clear hR43) | (first | omega | (simp only [IntKind.wrap_i64] at *; omega) | (simp_all; done) | (simp_all; omega)))
      refine runD_cut 9 fun R44 hR44 => ?_
      try simp (maxSteps := 1000000) [hm4, htn, f1, hmask, List.take_succ_cons, List.take_zero, List.drop_succ_cons, List.drop_zero]
      repeat' (first | apply And.intro | intro _)
      any_goals (first | (refine hR44 _ _ _ _ ?_; clear hR44) | (first | omega | (simp only [IntKind.wrap_i64] at *; omega) | (simp_all; done) | (simp_all; omega)))
      refine runD_cut 1 fun R45 hR45 => ?_
      try simp (maxSteps := 1000000) [hm4, htn, f1, hmask, List.take_succ_cons, List.take_zero, List.drop_succ_cons, List.drop_zero]
      refine .inr (hcl_mk (hput) (by simp [PV.ids, id1, getH, Blk.inL, Cells.inL, inL1]) (by simp [PV.inL, inL1]) (by simp) ?_)
      try simp (maxSteps := 1000000) [hm4, htn, f1, hmask]
      repeat' (first | apply And.intro | intro _)
      any_goals (first | (refine hR45 _ _ _ _ ?_; clear hR45) | (first | omega | (simp only [IntKind.wrap_i64] at *; omega) | (simp_all; done) | (simp_all; omega)))
      try simp (maxSteps := 1000000) [hm4, htn, f1, hmask, List.take_succ_cons, List.take_zero, List.drop_succ_cons, List.drop_zero]
      repeat' (first | apply And.intro | intro _)
      any_goals (first | kernel_rfl | (refine hK41 _ ?_; clear hK41) | (first | omega | (simp only [IntKind.wrap_i64] at *; omega) | (simp_all; done) | (simp_all; omega)))
      refine swp_ren 3 92 (by simp) (by simp) (by simp [purB, Cells.pur, pur1]) ?_
      simp [renW, okR, renP, ren2, ren1, leaf2, leafR, sw2, pur1]
      refine swp_region ty_ok ?_
      try simp (maxSteps := 1000000)
      repeat' (first | apply And.intro | intro _)
      any_goals (first | (refine hK30 _ ?_; clear hK30) | (first | omega | (simp only [IntKind.wrap_i64] at *; omega) | (simp_all; done) | (simp_all; omega)))
      first | (have hTn : hT1 i v = v.natAbs := by unfold hT1; rw [if_neg (by omega)]) | skip
      first | (have hEn : hE1 i v = [] := by unfold hE1; rw [if_neg (by omega)]) | skip
      refine swp_region ty_ok ?_
      refine runs_cut 2 fun R47 hR47 => ?_
      try simp (maxSteps := 1000000) [List.take_succ_cons, List.take_zero, List.drop_succ_cons, List.drop_zero]
      repeat' (first | apply And.intro | intro _)
      any_goals (first | (refine hR47 _ ?_; clear hR47) | (first | omega | (simp only [IntKind.wrap_i64] at *; omega) | (simp_all; done) | (simp_all; omega)))
      refine runs_cut 1 fun R48 hR48 => ?_
      try simp (maxSteps := 1000000) [List.take_succ_cons, List.take_zero, List.drop_succ_cons, List.drop_zero]
      repeat' (first | apply And.intro | intro _)
      any_goals (first | (refine Or.inl (hR48 _ ?_); clear hR48) | (first | omega | (simp only [IntKind.wrap_i64] at *; omega) | (simp_all; done) | (simp_all; omega)))
      try simp (maxSteps := 1000000) [List.take_succ_cons, List.take_zero, List.drop_succ_cons, List.drop_zero]
      repeat' (first | apply And.intro | intro _)
      any_goals (first | (refine hK20 _ ?_; clear hK20) | (first | omega | (simp only [IntKind.wrap_i64] at *; omega) | (simp_all; done) | (simp_all; omega)))
      refine swp_region ty_ok ?_
      try simp (maxSteps := 1000000)
      repeat' apply And.intro
      any_goals (try omega)
      refine hL16 _ ⟨[(0, .ro (.ints .u8 b)), (4, .ptr 0 0 0 1), (15, .sl 1 0 (k + 1) (k + 1)), (16, .sl 2 0 (hSg (vs.take (k + 1))).length (hSg (vs.take (k + 1))).length), (17, .sl 3 0 (hEs i (vs.take (k + 1))).length (hEs i (vs.take (k + 1))).length), (69, .ro (.ints .i64 vs)), (70, .int .i64 vs.length), (71, .int .i64 ((k + 1) : Nat))], [(0, some ⟨.rows 4 [[.int .i64 (i : Nat), .int .i64 p, .ro (.ints .i64 es), .ro (.ints .i64 rs)]], true, 25⟩), (1, some ⟨.ints .i64 (hTold i (vs.take (k + 1))), false, 3⟩), (2, some ⟨.ints .u8 (hSg (vs.take (k + 1))), false, 5⟩), (3, some ⟨.ints .u8 (hEs i (vs.take (k + 1))), false, 5⟩)], 4⟩ _ ?_ ⟨(k + 1), by (first | omega | (simp only [IntKind.wrap_i64] at *; omega) | (simp_all; done) | (simp_all; omega)), rfl, rfl⟩ ⟨by first | (simp [getT, PV.lo, lo1, hkw, hsl, hel, hEn]; first | (rw [hS]; rfl) | exact hS0 (by omega)) | (simp [getT, PV.lo, lo1, hkw, hsl]; rw [hS]; rfl), by (simp [getH, Blk.lo, Cells.lo, lo1]; first | (rw [ht, hsn, hTy, hS]; exact ⟨rfl, rfl⟩) | (rw [ht, hsn, hen, hTn, hEn, hS, List.append_nil]; exact ⟨rfl, rfl, rfl⟩) | (rw [ht, hsn, hen, hTn, hEn, hS0 (by omega), List.append_nil, List.append_nil]; exact ⟨rfl, rfl, rfl⟩)), rfl, by omega⟩
      omega
     ·clear hC32
      try simp at hc32
      refine swp_skip ?_
      try simp only [thn, inBlk]
      refine hK30 _ ?_; clear hK30
      first | (have hTn : hT1 i v = v.natAbs := by unfold hT1; rw [if_neg (by omega)]) | skip
      first | (have hEn : hE1 i v = [] := by unfold hE1; rw [if_neg (by omega)]) | skip
      refine swp_region ty_ok ?_
      refine runs_cut 2 fun R49 hR49 => ?_
      try simp (maxSteps := 1000000) [List.take_succ_cons, List.take_zero, List.drop_succ_cons, List.drop_zero]
      repeat' (first | apply And.intro | intro _)
      any_goals (first | (refine hR49 _ ?_; clear hR49) | (first | omega | (simp only [IntKind.wrap_i64] at *; omega) | (simp_all; done) | (simp_all; omega)))
      refine runs_cut 1 fun R50 hR50 => ?_
      try simp (maxSteps := 1000000) [List.take_succ_cons, List.take_zero, List.drop_succ_cons, List.drop_zero]
      repeat' (first | apply And.intro | intro _)
      any_goals (first | (refine Or.inl (hR50 _ ?_); clear hR50) | (first | omega | (simp only [IntKind.wrap_i64] at *; omega) | (simp_all; done) | (simp_all; omega)))
      try simp (maxSteps := 1000000) [List.take_succ_cons, List.take_zero, List.drop_succ_cons, List.drop_zero]
      repeat' (first | apply And.intro | intro _)
      any_goals (first | (refine hK20 _ ?_; clear hK20) | (first | omega | (simp only [IntKind.wrap_i64] at *; omega) | (simp_all; done) | (simp_all; omega)))
      refine swp_region ty_ok ?_
      try simp (maxSteps := 1000000)
      repeat' apply And.intro
      any_goals (try omega)
      refine hL16 _ ⟨[(0, .ro (.ints .u8 b)), (4, .ptr 0 0 0 1), (15, .sl 1 0 (k + 1) (k + 1)), (16, .sl 2 0 (hSg (vs.take (k + 1))).length (hSg (vs.take (k + 1))).length), (17, .sl 3 0 (hEs i (vs.take (k + 1))).length (hEs i (vs.take (k + 1))).length), (69, .ro (.ints .i64 vs)), (70, .int .i64 vs.length), (71, .int .i64 ((k + 1) : Nat))], [(0, some ⟨.rows 4 [[.int .i64 (i : Nat), .int .i64 p, .ro (.ints .i64 es), .ro (.ints .i64 rs)]], true, 25⟩), (1, some ⟨.ints .i64 (hTold i (vs.take (k + 1))), false, 3⟩), (2, some ⟨.ints .u8 (hSg (vs.take (k + 1))), false, 5⟩), (3, some ⟨.ints .u8 (hEs i (vs.take (k + 1))), false, 5⟩)], 4⟩ _ ?_ ⟨(k + 1), by (first | omega | (simp only [IntKind.wrap_i64] at *; omega) | (simp_all; done) | (simp_all; omega)), rfl, rfl⟩ ⟨by first | (simp [getT, PV.lo, lo1, hkw, hsl, hel, hEn]; first | (rw [hS]; rfl) | exact hS0 (by omega)) | (simp [getT, PV.lo, lo1, hkw, hsl]; rw [hS]; rfl), by (simp [getH, Blk.lo, Cells.lo, lo1]; first | (rw [ht, hsn, hTy, hS]; exact ⟨rfl, rfl⟩) | (rw [ht, hsn, hen, hTn, hEn, hS, List.append_nil]; exact ⟨rfl, rfl, rfl⟩) | (rw [ht, hsn, hen, hTn, hEn, hS0 (by omega), List.append_nil, List.append_nil]; exact ⟨rfl, rfl, rfl⟩)), rfl, by omega⟩
      omega
    ·clear hC27
     try simp at hc27
     refine swp_skip ?_
     try simp only [thn, inBlk]
     refine hK25 _ ?_; clear hK25
     refine swp_seq fun K51 hK51 => ?_
     refine swp_seq fun K52 hK52 => ?_
     have hS0 : v = 0 → hS1 v = [] := fun h => by unfold hS1; rw [if_pos h]
     refine swp_region ty_ok ?_
     try simp (maxSteps := 1000000)
     repeat' (first | apply And.intro | intro _)
     any_goals (first | (refine hK52 _ ?_; clear hK52) | (first | omega | (simp only [IntKind.wrap_i64] at *; omega) | (simp_all; done) | (simp_all; omega)))
     refine swp_if fun C53 hC53 => ?_
     try simp (maxSteps := 1000000)
     refine hC53 _ (fun hc53 => ?_) (fun hc53 => ?_)
     ·exfalso
      have h := hc53
      first | (simp [h11] at h; done) | (simp at h; omega)
     ·clear hC53
      try simp at hc53
      refine swp_skip ?_
      try simp only [thn, inBlk]
      refine hK51 _ ?_; clear hK51
      first | (have hTn : hT1 i v = v.natAbs := by unfold hT1; rw [if_neg (by omega)]) | skip
      first | (have hEn : hE1 i v = [] := by unfold hE1; rw [if_neg (by omega)]) | skip
      refine swp_region ty_ok ?_
      refine runs_cut 2 fun R54 hR54 => ?_
      try simp (maxSteps := 1000000) [List.take_succ_cons, List.take_zero, List.drop_succ_cons, List.drop_zero]
      repeat' (first | apply And.intro | intro _)
      any_goals (first | (refine hR54 _ ?_; clear hR54) | (first | omega | (simp only [IntKind.wrap_i64] at *; omega) | (simp_all; done) | (simp_all; omega)))
      refine runs_cut 1 fun R55 hR55 => ?_
      try simp (maxSteps := 1000000) [List.take_succ_cons, List.take_zero, List.drop_succ_cons, List.drop_zero]
      repeat' (first | apply And.intro | intro _)
      any_goals (first | (refine Or.inl (hR55 _ ?_); clear hR55) | (first | omega | (simp only [IntKind.wrap_i64] at *; omega) | (simp_all; done) | (simp_all; omega)))
      try simp (maxSteps := 1000000) [List.take_succ_cons, List.take_zero, List.drop_succ_cons, List.drop_zero]
      repeat' (first | apply And.intro | intro _)
      any_goals (first | (refine hK20 _ ?_; clear hK20) | (first | omega | (simp only [IntKind.wrap_i64] at *; omega) | (simp_all; done) | (simp_all; omega)))
      refine swp_region ty_ok ?_
      try simp (maxSteps := 1000000)
      repeat' apply And.intro
      any_goals (try omega)
      refine hL16 _ ⟨[(0, .ro (.ints .u8 b)), (4, .ptr 0 0 0 1), (15, .sl 1 0 (k + 1) (k + 1)), (16, .sl 2 0 (hSg (vs.take (k + 1))).length (hSg (vs.take (k + 1))).length), (17, .sl 3 0 (hEs i (vs.take (k + 1))).length (hEs i (vs.take (k + 1))).length), (69, .ro (.ints .i64 vs)), (70, .int .i64 vs.length), (71, .int .i64 ((k + 1) : Nat))], [(0, some ⟨.rows 4 [[.int .i64 (i : Nat), .int .i64 p, .ro (.ints .i64 es), .ro (.ints .i64 rs)]], true, 25⟩), (1, some ⟨.ints .i64 (hTold i (vs.take (k + 1))), false, 3⟩), (2, some ⟨.ints .u8 (hSg (vs.take (k + 1))), false, 5⟩), (3, some ⟨.ints .u8 (hEs i (vs.take (k + 1))), false, 5⟩)], 4⟩ _ ?_ ⟨(k + 1), by (first | omega | (simp only [IntKind.wrap_i64] at *; omega) | (simp_all; done) | (simp_all; omega)), rfl, rfl⟩ ⟨by first | (simp [getT, PV.lo, lo1, hkw, hsl, hel, hEn]; first | (rw [hS]; rfl) | exact hS0 (by omega)) | (simp [getT, PV.lo, lo1, hkw, hsl]; rw [hS]; rfl), by (simp [getH, Blk.lo, Cells.lo, lo1]; first | (rw [ht, hsn, hTy, hS]; exact ⟨rfl, rfl⟩) | (rw [ht, hsn, hen, hTn, hEn, hS, List.append_nil]; exact ⟨rfl, rfl, rfl⟩) | (rw [ht, hsn, hen, hTn, hEn, hS0 (by omega), List.append_nil, List.append_nil]; exact ⟨rfl, rfl, rfl⟩)), rfl, by omega⟩
      omega
   ·clear hC19
    try simp at hc19
    refine swp_exit ?_
    simp [thn, inBlk]
    refine hK14 _ ?_; clear hK14
    refine swp_seq fun K56 hK56 => ?_
    have hke : k = vs.length := (by omega)
    subst hke
    have htl0 := told_len i vs
    refine swp_region ty_ok ?_
    refine runs_cut 3 fun R57 hR57 => ?_
    try simp (maxSteps := 1000000) [htl0, List.take_length, List.take_succ_cons, List.take_zero, List.drop_succ_cons, List.drop_zero]
    repeat' (first | apply And.intro | intro _)
    any_goals (first | (refine hR57 _ ?_; clear hR57) | (first | omega | (simp only [IntKind.wrap_i64] at *; omega) | (simp_all; done) | (simp_all; omega)))
    refine runs_cut 1 fun R58 hR58 => ?_
    try simp (maxSteps := 1000000) [htl0, List.take_length, List.take_succ_cons, List.take_zero, List.drop_succ_cons, List.drop_zero]
    refine .inl ⟨_, hent, ?_⟩
    try simp (maxSteps := 1000000) [htl0, List.take_length]
    repeat' (first | apply And.intro | intro _)
    any_goals (first | (refine hR58 _ ?_; clear hR58) | (first | omega | (simp only [IntKind.wrap_i64] at *; omega) | (simp_all; done) | (simp_all; omega)))
    try simp (maxSteps := 1000000) [htl0, List.take_length, List.take_succ_cons, List.take_zero, List.drop_succ_cons, List.drop_zero]
    repeat' (first | apply And.intro | intro _)
    any_goals (first | (refine hK56 _ ?_; clear hK56) | (first | omega | (simp only [IntKind.wrap_i64] at *; omega) | (simp_all; done) | (simp_all; omega)))
    refine swp_seq fun K59 hK59 => ?_
    refine swp_region ty_ok ?_
    refine runs_cut 2 fun R60 hR60 => ?_
    try simp (maxSteps := 1000000) [List.take_succ_cons, List.take_zero, List.drop_succ_cons, List.drop_zero]
    repeat' (first | apply And.intro | intro _)
    any_goals (first | (refine hR60 _ ?_; clear hR60) | (first | omega | (simp only [IntKind.wrap_i64] at *; omega) | (simp_all; done) | (simp_all; omega)))
    refine runs_cut 1 fun R61 hR61 => ?_
    try simp (maxSteps := 1000000) [List.take_succ_cons, List.take_zero, List.drop_succ_cons, List.drop_zero]
    refine .inl ⟨_, hcode, ?_⟩
    try simp (maxSteps := 1000000)
    repeat' (first | apply And.intro | intro _)
    any_goals (first | (refine hR61 _ ?_; clear hR61) | (first | omega | (simp only [IntKind.wrap_i64] at *; omega) | (simp_all; done) | (simp_all; omega)))
    try simp (maxSteps := 1000000) [List.take_succ_cons, List.take_zero, List.drop_succ_cons, List.drop_zero]
    repeat' (first | apply And.intro | intro _)
    any_goals (first | (refine hK59 _ ?_; clear hK59) | (first | omega | (simp only [IntKind.wrap_i64] at *; omega) | (simp_all; done) | (simp_all; omega)))
    refine swp_seq fun K62 hK62 => ?_
    refine swp_seq fun K63 hK63 => ?_
    refine swp_region ty_ok ?_
    try simp (maxSteps := 1000000)
    repeat' (first | apply And.intro | intro _)
    any_goals (first | (refine hK63 _ ?_; clear hK63) | (first | omega | (simp only [IntKind.wrap_i64] at *; omega) | (simp_all; done) | (simp_all; omega)))
    refine swp_if fun C64 hC64 => ?_
    try simp (maxSteps := 1000000)
    refine hC64 _ (fun hc64 => ?_) (fun hc64 => ?_)
    ·clear hC64
     try simp at hc64
     refine swp_seq fun K65 hK65 => ?_
     refine swp_region ty_ok ?_
     try simp (maxSteps := 1000000)
     repeat' (first | apply And.intro | intro _)
     any_goals (first | (refine hK65 _ ?_; clear hK65) | (first | omega | (simp only [IntKind.wrap_i64] at *; omega) | (simp_all; done) | (simp_all; omega)))
     refine swp_ret ?_
     simp [fnPost, Try.results15, resP, tupOf]
    ·exact absurd hc64 (by simp)

set_option maxHeartbeats 2000000 in
theorem putS_ok (i : Nat) (h1 : 1 ≤ i) (h2 : i ≤ 11) (p : Int) (es rs : List Int) (b vs C : List Int) (E : Int) (hd : vs.length = bDim i) (hf : hFit i vs = true) (hcode : PCall Try.prog 45 [.agg [.int .i64 (i : Nat), .int .i64 p, .ro (.ints .i64 es), .ro (.ints .i64 rs)], .int .i64 (entN i vs : Nat)] (.tup [.ro (.ints .u8 C), .int .i64 E])) (hE : E = 0) (hC : 1 ≤ C.length ∧ C.length ≤ 100) (hb : b.length ≤ 1000000) (hs : hSig i = true) : PCall Try.prog 15 [.ro (.ints .u8 b), .agg [.int .i64 (i : Nat), .int .i64 p, .ro (.ints .i64 es), .ro (.ints .i64 rs)], .ro (.ints .i64 vs)] (.tup [.ro (.ints .u8 (b ++ C)), .int .i64 0]) := by
 have hF := hkF h1 h2
 have hFd := hF.d
 have hvl : vs.length ≤ 4 := by rw [hd, hFd]; split <;> omega
 subst hE
 obtain ⟨k1, k2, k3⟩ := sig_ent h1 h2 hd hf hs
 have hent := ent_ok i h1 (by omega) vs
 rw [k1, k2] at hent
 refine pcall_body ty_ok Try.func15 rfl (by rfl) (by simp) ?_
 rw [Try.ntmps15]
 refine swp_seq fun K1 hK1 => ?_
 refine swp_region ty_ok ?_
 try simp (maxSteps := 1000000)
 repeat' (first | apply And.intro | intro _)
 any_goals (first | (refine hK1 _ ?_; clear hK1) | (first | omega | (simp only [IntKind.wrap_i64] at *; omega) | (simp_all; done) | (simp_all; omega)))
 refine swp_seq fun K2 hK2 => ?_
 refine swp_region ty_ok ?_
 refine runs_cut 3 fun R3 hR3 => ?_
 try simp (maxSteps := 1000000) [List.take_succ_cons, List.take_zero, List.drop_succ_cons, List.drop_zero]
 repeat' (first | apply And.intro | intro _)
 any_goals (first | (refine hR3 _ ?_; clear hR3) | (first | omega | (simp only [IntKind.wrap_i64] at *; omega) | (simp_all; done) | (simp_all; omega)))
 refine runs_cut 1 fun R4 hR4 => ?_
 try simp (maxSteps := 1000000) [List.take_succ_cons, List.take_zero, List.drop_succ_cons, List.drop_zero]
 refine .inl ⟨_, fits_ok i h1 h2 vs hd, ?_⟩
 try simp (maxSteps := 1000000)
 repeat' (first | apply And.intro | intro _)
 any_goals (first | (refine hR4 _ ?_; clear hR4) | (first | omega | (simp only [IntKind.wrap_i64] at *; omega) | (simp_all; done) | (simp_all; omega)))
 try simp (maxSteps := 1000000) [List.take_succ_cons, List.take_zero, List.drop_succ_cons, List.drop_zero]
 repeat' (first | apply And.intro | intro _)
 any_goals (first | (refine hK2 _ ?_; clear hK2) | (first | omega | (simp only [IntKind.wrap_i64] at *; omega) | (simp_all; done) | (simp_all; omega)))
 refine swp_seq fun K5 hK5 => ?_
 refine swp_seq fun K6 hK6 => ?_
 refine swp_region ty_ok ?_
 try simp (maxSteps := 1000000) [hf]
 repeat' (first | apply And.intro | intro _)
 any_goals (first | (refine hK6 _ ?_; clear hK6) | (first | omega | (simp only [IntKind.wrap_i64] at *; omega) | (simp_all; done) | (simp_all; omega)))
 refine swp_if fun C7 hC7 => ?_
 try simp (maxSteps := 1000000) [hf]
 refine hC7 _ (fun hc7 => ?_) (fun hc7 => ?_)
 ·exact absurd hc7 (by simp [hf, hs])
 ·clear hC7
  try simp at hc7
  refine swp_skip ?_
  try simp only [thn, inBlk]
  refine hK5 _ ?_; clear hK5
  refine swp_seq fun K8 hK8 => ?_
  refine swp_seq fun K9 hK9 => ?_
  refine swp_region ty_ok ?_
  refine runs_cut 2 fun R10 hR10 => ?_
  try simp (maxSteps := 1000000) [hs, List.take_succ_cons, List.take_zero, List.drop_succ_cons, List.drop_zero]
  repeat' (first | apply And.intro | intro _)
  any_goals (first | (refine hR10 _ ?_; clear hR10) | (first | omega | (simp only [IntKind.wrap_i64] at *; omega) | (simp_all; done) | (simp_all; omega)))
  try simp (maxSteps := 1000000) [hs, List.take_succ_cons, List.take_zero, List.drop_succ_cons, List.drop_zero]
  refine .inl ⟨_, signed_ok i, ?_⟩
  try simp (maxSteps := 1000000) [hs]
  repeat' (first | apply And.intro | intro _)
  any_goals (first | (refine hK9 _ ?_; clear hK9) | (first | omega | (simp only [IntKind.wrap_i64] at *; omega) | (simp_all; done) | (simp_all; omega)))
  refine swp_if fun C11 hC11 => ?_
  try simp (maxSteps := 1000000) [hs]
  refine hC11 _ (fun hc11 => ?_) (fun hc11 => ?_)
  ·clear hC11
   try simp at hc11
   refine swp_seq fun K12 hK12 => ?_
   refine swp_region ty_ok ?_
   refine runs_cut 3 fun R13 hR13 => ?_
   try simp (maxSteps := 1000000) [List.take_succ_cons, List.take_zero, List.drop_succ_cons, List.drop_zero]
   repeat' (first | apply And.intro | intro _)
   any_goals (first | (refine hR13 _ ?_; clear hR13) | (first | omega | (simp only [IntKind.wrap_i64] at *; omega) | (simp_all; done) | (simp_all; omega)))
   refine runs_cut 1 fun R14 hR14 => ?_
   try simp (maxSteps := 1000000) [List.take_succ_cons, List.take_zero, List.drop_succ_cons, List.drop_zero]
   refine .inl ⟨_, hent, ?_⟩
   try simp (maxSteps := 1000000)
   repeat' (first | apply And.intro | intro _)
   any_goals (first | (refine hR14 _ ?_; clear hR14) | (first | omega | (simp only [IntKind.wrap_i64] at *; omega) | (simp_all; done) | (simp_all; omega)))
   try simp (maxSteps := 1000000) [List.take_succ_cons, List.take_zero, List.drop_succ_cons, List.drop_zero]
   repeat' (first | apply And.intro | intro _)
   any_goals (first | (refine hK12 _ ?_; clear hK12) | (first | omega | (simp only [IntKind.wrap_i64] at *; omega) | (simp_all; done) | (simp_all; omega)))
   refine swp_seq fun K15 hK15 => ?_
   refine swp_region ty_ok ?_
   refine runs_cut 2 fun R16 hR16 => ?_
   try simp (maxSteps := 1000000) [List.take_succ_cons, List.take_zero, List.drop_succ_cons, List.drop_zero]
   repeat' (first | apply And.intro | intro _)
   any_goals (first | (refine hR16 _ ?_; clear hR16) | (first | omega | (simp only [IntKind.wrap_i64] at *; omega) | (simp_all; done) | (simp_all; omega)))
   refine runs_cut 1 fun R17 hR17 => ?_
   try simp (maxSteps := 1000000) [List.take_succ_cons, List.take_zero, List.drop_succ_cons, List.drop_zero]
   refine .inl ⟨_, hcode, ?_⟩
   try simp (maxSteps := 1000000)
   repeat' (first | apply And.intro | intro _)
   any_goals (first | (refine hR17 _ ?_; clear hR17) | (first | omega | (simp only [IntKind.wrap_i64] at *; omega) | (simp_all; done) | (simp_all; omega)))
   try simp (maxSteps := 1000000) [List.take_succ_cons, List.take_zero, List.drop_succ_cons, List.drop_zero]
   repeat' (first | apply And.intro | intro _)
   any_goals (first | (refine hK15 _ ?_; clear hK15) | (first | omega | (simp only [IntKind.wrap_i64] at *; omega) | (simp_all; done) | (simp_all; omega)))
   refine swp_seq fun K18 hK18 => ?_
   refine swp_seq fun K19 hK19 => ?_
   refine swp_region ty_ok ?_
   try simp (maxSteps := 1000000)
   repeat' (first | apply And.intro | intro _)
   any_goals (first | (refine hK19 _ ?_; clear hK19) | (first | omega | (simp only [IntKind.wrap_i64] at *; omega) | (simp_all; done) | (simp_all; omega)))
   refine swp_if fun C20 hC20 => ?_
   try simp (maxSteps := 1000000)
   refine hC20 _ (fun hc20 => ?_) (fun hc20 => ?_)
   ·exact absurd hc20 (by simp [hf, hs])
   ·clear hC20
    try simp at hc20
    refine swp_skip ?_
    try simp only [thn, inBlk]
    refine hK18 _ ?_; clear hK18
    refine swp_seq fun K21 hK21 => ?_
    refine swp_region ty_ok ?_
    refine runs_cut 2 fun R22 hR22 => ?_
    try simp (maxSteps := 1000000) [List.take_succ_cons, List.take_zero, List.drop_succ_cons, List.drop_zero]
    repeat' (first | apply And.intro | intro _)
    any_goals (first | (refine hR22 _ ?_; clear hR22) | (first | omega | (simp only [IntKind.wrap_i64] at *; omega) | (simp_all; done) | (simp_all; omega)))
    refine runs_cut 1 fun R23 hR23 => ?_
    try simp (maxSteps := 1000000) [List.take_succ_cons, List.take_zero, List.drop_succ_cons, List.drop_zero]
    repeat' (first | apply And.intro | intro _)
    any_goals (first | (refine Or.inl (hR23 _ ?_); clear hR23) | (first | omega | (simp only [IntKind.wrap_i64] at *; omega) | (simp_all; done) | (simp_all; omega)))
    refine runs_cut 1 fun R24 hR24 => ?_
    try simp (maxSteps := 1000000) [List.take_succ_cons, List.take_zero, List.drop_succ_cons, List.drop_zero]
    refine .inl ⟨_, cc_step b C (by omega) hb, ?_⟩
    try simp (maxSteps := 1000000)
    repeat' (first | apply And.intro | intro _)
    any_goals (first | (refine hR24 _ ?_; clear hR24) | (first | omega | (simp only [IntKind.wrap_i64] at *; omega) | (simp_all; done) | (simp_all; omega)))
    try simp (maxSteps := 1000000) [List.take_succ_cons, List.take_zero, List.drop_succ_cons, List.drop_zero]
    repeat' (first | apply And.intro | intro _)
    any_goals (first | (refine hK21 _ ?_; clear hK21) | (first | omega | (simp only [IntKind.wrap_i64] at *; omega) | (simp_all; done) | (simp_all; omega)))
    refine swp_ret ?_
    simp [fnPost, Try.results15, resP, tupOf]
    skip
  ·exact absurd hc11 (by simp [hf, hs])

set_option maxHeartbeats 2000000 in
theorem putS_no (i : Nat) (h1 : 1 ≤ i) (h2 : i ≤ 11) (p : Int) (es rs : List Int) (b vs C : List Int) (E : Int) (hd : vs.length = bDim i) (hf : hFit i vs = true) (hcode : PCall Try.prog 45 [.agg [.int .i64 (i : Nat), .int .i64 p, .ro (.ints .i64 es), .ro (.ints .i64 rs)], .int .i64 (entN i vs : Nat)] (.tup [.ro (.ints .u8 C), .int .i64 E])) (hE : E = 8) (hs : hSig i = true) : PCall Try.prog 15 [.ro (.ints .u8 b), .agg [.int .i64 (i : Nat), .int .i64 p, .ro (.ints .i64 es), .ro (.ints .i64 rs)], .ro (.ints .i64 vs)] (.tup [.ro (.ints .u8 []), .int .i64 8]) := by
 have hF := hkF h1 h2
 have hFd := hF.d
 have hvl : vs.length ≤ 4 := by rw [hd, hFd]; split <;> omega
 subst hE
 obtain ⟨k1, k2, k3⟩ := sig_ent h1 h2 hd hf hs
 have hent := ent_ok i h1 (by omega) vs
 rw [k1, k2] at hent
 refine pcall_body ty_ok Try.func15 rfl (by rfl) (by simp) ?_
 rw [Try.ntmps15]
 refine swp_seq fun K1 hK1 => ?_
 refine swp_region ty_ok ?_
 try simp (maxSteps := 1000000)
 repeat' (first | apply And.intro | intro _)
 any_goals (first | (refine hK1 _ ?_; clear hK1) | (first | omega | (simp only [IntKind.wrap_i64] at *; omega) | (simp_all; done) | (simp_all; omega)))
 refine swp_seq fun K2 hK2 => ?_
 refine swp_region ty_ok ?_
 refine runs_cut 3 fun R3 hR3 => ?_
 try simp (maxSteps := 1000000) [List.take_succ_cons, List.take_zero, List.drop_succ_cons, List.drop_zero]
 repeat' (first | apply And.intro | intro _)
 any_goals (first | (refine hR3 _ ?_; clear hR3) | (first | omega | (simp only [IntKind.wrap_i64] at *; omega) | (simp_all; done) | (simp_all; omega)))
 refine runs_cut 1 fun R4 hR4 => ?_
 try simp (maxSteps := 1000000) [List.take_succ_cons, List.take_zero, List.drop_succ_cons, List.drop_zero]
 refine .inl ⟨_, fits_ok i h1 h2 vs hd, ?_⟩
 try simp (maxSteps := 1000000)
 repeat' (first | apply And.intro | intro _)
 any_goals (first | (refine hR4 _ ?_; clear hR4) | (first | omega | (simp only [IntKind.wrap_i64] at *; omega) | (simp_all; done) | (simp_all; omega)))
 try simp (maxSteps := 1000000) [List.take_succ_cons, List.take_zero, List.drop_succ_cons, List.drop_zero]
 repeat' (first | apply And.intro | intro _)
 any_goals (first | (refine hK2 _ ?_; clear hK2) | (first | omega | (simp only [IntKind.wrap_i64] at *; omega) | (simp_all; done) | (simp_all; omega)))
 refine swp_seq fun K5 hK5 => ?_
 refine swp_seq fun K6 hK6 => ?_
 refine swp_region ty_ok ?_
 try simp (maxSteps := 1000000) [hf]
 repeat' (first | apply And.intro | intro _)
 any_goals (first | (refine hK6 _ ?_; clear hK6) | (first | omega | (simp only [IntKind.wrap_i64] at *; omega) | (simp_all; done) | (simp_all; omega)))
 refine swp_if fun C7 hC7 => ?_
 try simp (maxSteps := 1000000) [hf]
 refine hC7 _ (fun hc7 => ?_) (fun hc7 => ?_)
 ·exact absurd hc7 (by simp [hf, hs])
 ·clear hC7
  try simp at hc7
  refine swp_skip ?_
  try simp only [thn, inBlk]
  refine hK5 _ ?_; clear hK5
  refine swp_seq fun K8 hK8 => ?_
  refine swp_seq fun K9 hK9 => ?_
  refine swp_region ty_ok ?_
  refine runs_cut 2 fun R10 hR10 => ?_
  try simp (maxSteps := 1000000) [hs, List.take_succ_cons, List.take_zero, List.drop_succ_cons, List.drop_zero]
  repeat' (first | apply And.intro | intro _)
  any_goals (first | (refine hR10 _ ?_; clear hR10) | (first | omega | (simp only [IntKind.wrap_i64] at *; omega) | (simp_all; done) | (simp_all; omega)))
  try simp (maxSteps := 1000000) [hs, List.take_succ_cons, List.take_zero, List.drop_succ_cons, List.drop_zero]
  refine .inl ⟨_, signed_ok i, ?_⟩
  try simp (maxSteps := 1000000) [hs]
  repeat' (first | apply And.intro | intro _)
  any_goals (first | (refine hK9 _ ?_; clear hK9) | (first | omega | (simp only [IntKind.wrap_i64] at *; omega) | (simp_all; done) | (simp_all; omega)))
  refine swp_if fun C11 hC11 => ?_
  try simp (maxSteps := 1000000) [hs]
  refine hC11 _ (fun hc11 => ?_) (fun hc11 => ?_)
  ·clear hC11
   try simp at hc11
   refine swp_seq fun K12 hK12 => ?_
   refine swp_region ty_ok ?_
   refine runs_cut 3 fun R13 hR13 => ?_
   try simp (maxSteps := 1000000) [List.take_succ_cons, List.take_zero, List.drop_succ_cons, List.drop_zero]
   repeat' (first | apply And.intro | intro _)
   any_goals (first | (refine hR13 _ ?_; clear hR13) | (first | omega | (simp only [IntKind.wrap_i64] at *; omega) | (simp_all; done) | (simp_all; omega)))
   refine runs_cut 1 fun R14 hR14 => ?_
   try simp (maxSteps := 1000000) [List.take_succ_cons, List.take_zero, List.drop_succ_cons, List.drop_zero]
   refine .inl ⟨_, hent, ?_⟩
   try simp (maxSteps := 1000000)
   repeat' (first | apply And.intro | intro _)
   any_goals (first | (refine hR14 _ ?_; clear hR14) | (first | omega | (simp only [IntKind.wrap_i64] at *; omega) | (simp_all; done) | (simp_all; omega)))
   try simp (maxSteps := 1000000) [List.take_succ_cons, List.take_zero, List.drop_succ_cons, List.drop_zero]
   repeat' (first | apply And.intro | intro _)
   any_goals (first | (refine hK12 _ ?_; clear hK12) | (first | omega | (simp only [IntKind.wrap_i64] at *; omega) | (simp_all; done) | (simp_all; omega)))
   refine swp_seq fun K15 hK15 => ?_
   refine swp_region ty_ok ?_
   refine runs_cut 2 fun R16 hR16 => ?_
   try simp (maxSteps := 1000000) [List.take_succ_cons, List.take_zero, List.drop_succ_cons, List.drop_zero]
   repeat' (first | apply And.intro | intro _)
   any_goals (first | (refine hR16 _ ?_; clear hR16) | (first | omega | (simp only [IntKind.wrap_i64] at *; omega) | (simp_all; done) | (simp_all; omega)))
   refine runs_cut 1 fun R17 hR17 => ?_
   try simp (maxSteps := 1000000) [List.take_succ_cons, List.take_zero, List.drop_succ_cons, List.drop_zero]
   refine .inl ⟨_, hcode, ?_⟩
   try simp (maxSteps := 1000000)
   repeat' (first | apply And.intro | intro _)
   any_goals (first | (refine hR17 _ ?_; clear hR17) | (first | omega | (simp only [IntKind.wrap_i64] at *; omega) | (simp_all; done) | (simp_all; omega)))
   try simp (maxSteps := 1000000) [List.take_succ_cons, List.take_zero, List.drop_succ_cons, List.drop_zero]
   repeat' (first | apply And.intro | intro _)
   any_goals (first | (refine hK15 _ ?_; clear hK15) | (first | omega | (simp only [IntKind.wrap_i64] at *; omega) | (simp_all; done) | (simp_all; omega)))
   refine swp_seq fun K18 hK18 => ?_
   refine swp_seq fun K19 hK19 => ?_
   refine swp_region ty_ok ?_
   try simp (maxSteps := 1000000)
   repeat' (first | apply And.intro | intro _)
   any_goals (first | (refine hK19 _ ?_; clear hK19) | (first | omega | (simp only [IntKind.wrap_i64] at *; omega) | (simp_all; done) | (simp_all; omega)))
   refine swp_if fun C20 hC20 => ?_
   try simp (maxSteps := 1000000)
   refine hC20 _ (fun hc20 => ?_) (fun hc20 => ?_)
   ·clear hC20
    try simp at hc20
    refine swp_seq fun K21 hK21 => ?_
    refine swp_region ty_ok ?_
    try simp (maxSteps := 1000000)
    repeat' (first | apply And.intro | intro _)
    any_goals (first | (refine hK21 _ ?_; clear hK21) | (first | omega | (simp only [IntKind.wrap_i64] at *; omega) | (simp_all; done) | (simp_all; omega)))
    refine swp_ret ?_
    simp [fnPost, Try.results15, resP, tupOf]
    skip
   ·exact absurd hc20 (by simp [hf, hs])
  ·exact absurd hc11 (by simp [hf, hs])

end Go.Proofs.Ytgheplondkoedaa

