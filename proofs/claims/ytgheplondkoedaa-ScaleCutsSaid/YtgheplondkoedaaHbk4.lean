import Derived.Test.YtgheplondkoedaaWf
import Derived.Test.YtgheplondkoedaaTyh
import Derived.Test.YtgheplondkoedaaBkq
import Derived.Test.YtgheplondkoedaaHsrt
import Derived.Test.YtgheplondkoedaaHbk
import Derived.Test.YtgheplondkoedaaHbk2
import Derived.Test.YtgheplondkoedaaHbk3
import Derived.Test.YtgheplondkoedaaHbits
import Derived.Test.YtgheplondkoedaaHrd
import Derived.Test.YtgheplondkoedaaHrdq
import Derived.Test.YtgheplondkoedaaHbits2
namespace Go.Proofs.Ytgheplondkoedaa
set_option linter.unusedVariables false
set_option linter.unusedSimpArgs false
set_option maxRecDepth 10000
open Go Go.Pv

open Go.RowKit
def cN (p r : Nat) : Nat := r / 2 ^ p + 1
def cM (p r : Nat) : Nat := Lib.bitLen (cN p r)
/-- The code of a rank. -/
def codeL (p r : Nat) : List Int := List.replicate (cM p r - 1) 0 ++ bitsOf (cN p r) (cM p r) ++ bitsOf (r % 2 ^ p) p
structure CodeF (p r : Nat) : Prop where
 m : 1 ≤ cM p r ∧ cM p r ≤ 9
 n : cN p r < 2 ^ cM p r ∧ 2 ^ (cM p r - 1) ≤ cN p r
 b : bitsOf (cN p r) (2 * cM p r - 1) = List.replicate (cM p r - 1) 0 ++ bitsOf (cN p r) (cM p r)
 s : (r : Int).fdiv (2 ^ min p 64) = (r / 2 ^ p : Nat)
 a : IntKind.i64.wrap ((r % 2 ^ IntKind.i64.bits &&& (IntKind.i64.wrap (IntKind.i64.wrap (2 ^ min p 64) - 1) % 2 ^ IntKind.i64.bits).toNat : Nat) : Int) = (r % 2 ^ p : Nat)
theorem codeF_all : ∀ p : Fin 3, ∀ r : Fin 289, (1 ≤ cM p r ∧ cM p r ≤ 9) ∧ (cN p r < 2 ^ cM p r ∧ 2 ^ (cM p r - 1) ≤ cN p r) ∧ bitsOf (cN p r) (2 * cM p r - 1) = List.replicate (cM p r - 1) 0 ++ bitsOf (cN p r) (cM p r) ∧ (r.val : Int).fdiv (2 ^ min p.val 64) = (r.val / 2 ^ p.val : Nat) ∧ IntKind.i64.wrap ((r.val % 2 ^ IntKind.i64.bits &&& (IntKind.i64.wrap (IntKind.i64.wrap (2 ^ min p.val 64) - 1) % 2 ^ IntKind.i64.bits).toNat : Nat) : Int) = (r.val % 2 ^ p.val : Nat) := by decide +kernel
theorem codeF {p r : Nat} (hp : p ≤ 2) (hr : r < 289) : CodeF p r := by
 obtain ⟨a, b, c, d, e⟩ := codeF_all ⟨p, by omega⟩ ⟨r, hr⟩
 exact ⟨a, b, c, d, e⟩
theorem code_put {p r : Nat} (hp : p ≤ 2) (hr : r < 289) : putL (putL [] (cN p r : Nat) ((2 * cM p r - 1 : Nat) : Int)) ((r % 2 ^ p : Nat) : Int) (p : Nat) = codeL p r ∧ putE ((r % 2 ^ p : Nat) : Int) (p : Nat) = 0 := by
 have f := codeF hp hr
 have f1 := f.m
 have f2 := f.n
 have hp2 : r % 2 ^ p < 2 ^ p := Nat.mod_lt _ (Nat.pow_pos (by omega))
 have e1 : cN p r < 2 ^ (2 * cM p r - 1) := Nat.lt_of_lt_of_le f2.1 (Nat.pow_le_pow_right (by omega) (by omega))
 rw [putL_nat (by omega) e1, putL_nat (by omega) hp2, f.b]
 refine ⟨by simp [codeL], putE_yes (putOk_nat (by omega) hp2)⟩
/-- The place of the one, behind noughts. -/
def zr (b : List Int) : Nat → Nat → Int → Nat × Int × Int
 | 0, z, _ => (z, 0, 8)
 | f + 1, z, p => if getE b p 1 = 0 then (if getN b p 1 = 0 then zr b f (z + 1) (getP b p 1) else (z, getP b p 1, 0)) else (z, 0, getE b p 1)
def zZ (b : List Int) (at_ : Int) : Nat := (zr b 10 0 at_).1
def zP (b : List Int) (at_ : Int) : Int := (zr b 10 0 at_).2.1
def zE (b : List Int) (at_ : Int) : Int := (zr b 10 0 at_).2.2
def hN (b : List Int) (at_ : Int) : Int := getN b (zP b at_) (zZ b at_ : Nat)
def hP (b : List Int) (at_ : Int) : Int := getP b (zP b at_) (zZ b at_ : Nat)
def hE (b : List Int) (at_ : Int) : Int := getE b (zP b at_) (zZ b at_ : Nat)
def lN (p : Nat) (b : List Int) (at_ : Int) : Int := getN b (hP b at_) (p : Nat)
def lP (p : Nat) (b : List Int) (at_ : Int) : Int := getP b (hP b at_) (p : Nat)
def lE (p : Nat) (b : List Int) (at_ : Int) : Int := getE b (hP b at_) (p : Nat)
def rkR (p : Nat) (b : List Int) (at_ : Int) : Int := ((2 : Int) ^ zZ b at_ + hN b at_ - 1) * (2 : Int) ^ p + lN p b at_
def fdE (p N : Nat) (b : List Int) (at_ : Int) : Int := if zE b at_ = 0 then (if hE b at_ = 0 then (if lE p b at_ = 0 then (if rkR p b at_ < N then 0 else 8) else lE p b at_) else hE b at_) else zE b at_
def fdN (p : Nat) (es : List Int) (b : List Int) (at_ : Int) : Int := if fdE p es.length b at_ = 0 then es[(rkR p b at_).toNat]?.getD 0 else 0
def fdP (p : Nat) (es : List Int) (b : List Int) (at_ : Int) : Int := if fdE p es.length b at_ = 0 then lP p b at_ else 0
theorem nn {b : List Int} (hp : ∀ k : Nat, 0 ≤ b[k]?.getD 0 ∧ b[k]?.getD 0 ≤ 255) : ∀ y ∈ b, 0 ≤ y := fun y hy => by
 obtain ⟨k, hk, rfl⟩ := List.getElem_of_mem hy
 have := (hp k).1
 rwa [List.getElem?_eq_getElem hk] at this
structure RkF (p : Nat) (b : List Int) (at_ : Int) : Prop where
 z : zZ b at_ ≤ 9
 s : IntKind.i64.wrap (2 ^ min (zZ b at_) 64) = (2 : Int) ^ zZ b at_
 a : IntKind.i64.wrap ((2 : Int) ^ zZ b at_ + getN b (zP b at_) (zZ b at_ : Nat)) = (2 : Int) ^ zZ b at_ + getN b (zP b at_) (zZ b at_ : Nat)
 o : IntKind.i64.wrap ((2 : Int) ^ zZ b at_ + getN b (zP b at_) (zZ b at_ : Nat) - 1) = (2 : Int) ^ zZ b at_ + getN b (zP b at_) (zZ b at_ : Nat) - 1
 t : IntKind.i64.wrap (((2 : Int) ^ zZ b at_ + getN b (zP b at_) (zZ b at_ : Nat) - 1) * 2 ^ min p 64) = ((2 : Int) ^ zZ b at_ + getN b (zP b at_) (zZ b at_ : Nat) - 1) * (2 : Int) ^ p
 u : IntKind.i64.wrap (((2 : Int) ^ zZ b at_ + getN b (zP b at_) (zZ b at_ : Nat) - 1) * (2 : Int) ^ p) = ((2 : Int) ^ zZ b at_ + getN b (zP b at_) (zZ b at_ : Nat) - 1) * (2 : Int) ^ p
 l : IntKind.i64.wrap (((2 : Int) ^ zZ b at_ + getN b (zP b at_) (zZ b at_ : Nat) - 1) * (2 : Int) ^ p + getN b (hP b at_) (p : Nat)) = rkR p b at_
 r : 0 ≤ rkR p b at_
attribute [local simp] runs gd step1 need evu un opnds opv ev cst cst1 cstL getT getH putT onL nxt argT cellsOf PV.one thn inBlk jmp fldP ldP ldC live Cells.len Cells.get Cells.w sug ldv bin eqF eq1 ops2 sh2 binv Tk.agg stC apC rdS apS cpC cpS mvL zp argsP idx fillP toInts chunks mkC ixS ixA oidx slP sl0 slA optL List.append mxF bltn frzA frz frzL frz1 pur1 Cells.pur PV.scal scal1 runD rdO PV.ids id1 zids ety Eff.on cnd minb and1b ifmax ifmin mxv sugI strv w0 w1 w2 wm1
theorem right_out (id : Int) (h : id < 1 ∨ 12 < id) (p : Int) (es rs : List Int) : PCall Try.prog 82 [.agg [.int .i64 id, .int .i64 p, .ro (.ints .i64 es), .ro (.ints .i64 rs)]] (.bool false) := by
 refine pcall_body ty_ok Try.func82 rfl (by rfl) (by simp) ?_
 rw [Try.ntmps82]
 refine swp_seq fun K1 hK1 => ?_
 refine swp_region ty_ok ?_
 try simp (maxSteps := 1000000)
 repeat' (first | apply And.intro | intro _)
 any_goals (first | (refine hK1 _ ?_; clear hK1) | omega | (simp_all <;> omega))
 refine swp_seq fun K2 hK2 => ?_
 refine swp_region ty_ok ?_
 refine runs_cut 2 fun R3 hR3 => ?_
 try simp (maxSteps := 1000000) [List.take_succ_cons, List.take_zero, List.drop_succ_cons, List.drop_zero]
 repeat' (first | apply And.intro | intro _)
 any_goals (first | (refine hR3 _ ?_; clear hR3) | omega | (simp_all <;> omega))
 refine runs_cut 1 fun R4 hR4 => ?_
 try simp (maxSteps := 1000000) [List.take_succ_cons, List.take_zero, List.drop_succ_cons, List.drop_zero]
 refine .inl ⟨_, of_no id h, ?_⟩
 try simp (maxSteps := 1000000)
 repeat' (first | apply And.intro | intro _)
 any_goals (first | (refine hR4 _ ?_; clear hR4) | omega | (simp_all <;> omega))
 try simp (maxSteps := 1000000) [List.take_succ_cons, List.take_zero, List.drop_succ_cons, List.drop_zero]
 repeat' (first | apply And.intro | intro _)
 any_goals (first | (refine hK2 _ ?_; clear hK2) | omega | (simp_all <;> omega))
 refine swp_seq fun K5 hK5 => ?_
 refine swp_seq fun K6 hK6 => ?_
 refine swp_draw ty_ok mixed (ms := [0, 1, 3, 7, 15, 7, 39, 127, 255, 511, 1023, 2047, 4095, 1023, 9215, 32767, 65535, 131071, 262143, 524287, 1048575, 262143, 2359295, 8388607, 16777215]) (by kernel_rfl) ?_
 refine runD_cut 7 fun R7 hR7 => ?_
 try simp (maxSteps := 1000000) [List.take_succ_cons, List.take_zero, List.drop_succ_cons, List.drop_zero]
 repeat' (first | apply And.intro | intro _)
 any_goals (first | (refine hR7 _ _ _ _ ?_; clear hR7) | omega | (simp_all <;> omega))
 refine runD_cut 7 fun R8 hR8 => ?_
 try simp (maxSteps := 1000000) [List.take_succ_cons, List.take_zero, List.drop_succ_cons, List.drop_zero]
 repeat' (first | apply And.intro | intro _)
 any_goals (first | (refine hR8 _ _ _ _ ?_; clear hR8) | omega | (simp_all <;> omega))
 refine runD_cut 1 fun R9 hR9 => ?_
 try simp (maxSteps := 1000000) [List.take_succ_cons, List.take_zero, List.drop_succ_cons, List.drop_zero]
 first | refine .inl ⟨.int .i64 0, ?_⟩ | refine ⟨.int .i64 0, ?_⟩
 repeat' (first | apply And.intro | intro _)
 any_goals (first | (refine hR9 _ _ _ _ ?_; clear hR9) | omega | (simp_all <;> omega))
 refine runD_cut 7 fun R10 hR10 => ?_
 try simp (maxSteps := 1000000) [List.take_succ_cons, List.take_zero, List.drop_succ_cons, List.drop_zero]
 repeat' (first | apply And.intro | intro _)
 any_goals (first | (refine hR10 _ _ _ _ ?_; clear hR10) | omega | (simp_all <;> omega))
 refine runD_cut 1 fun R11 hR11 => ?_
 try simp (maxSteps := 1000000) [List.take_succ_cons, List.take_zero, List.drop_succ_cons, List.drop_zero]
 first | refine .inl ⟨.int .i64 0, ?_⟩ | refine ⟨.int .i64 0, ?_⟩
 repeat' (first | apply And.intro | intro _)
 any_goals (first | (refine hR11 _ _ _ _ ?_; clear hR11) | omega | (simp_all <;> omega))
 try simp (maxSteps := 1000000) [List.take_succ_cons, List.take_zero, List.drop_succ_cons, List.drop_zero]
 repeat' (first | apply And.intro | intro _)
 any_goals (first | kernel_rfl | (refine hK6 _ ?_; clear hK6) | omega | (simp_all <;> omega))
 refine swp_if fun C13 hC13 => ?_
 try simp (maxSteps := 1000000)
 refine hC13 _ (fun hc13 => ?_) (fun hc13 => ?_)
 ·clear hC13
  try simp at hc13
  refine swp_seq fun K14 hK14 => ?_
  refine swp_region ty_ok ?_
  try simp (maxSteps := 1000000)
  repeat' (first | apply And.intro | intro _)
  any_goals (first | (refine hK14 _ ?_; clear hK14) | omega | (simp_all <;> omega))
  refine swp_ret ?_
  simp [fnPost, Try.results82, resP, tupOf]
 ·exact absurd hc13 (by simp)

theorem right_ok (id p : Int) (es rs : List Int) : PCall Try.prog 82 [.agg [.int .i64 id, .int .i64 p, .ro (.ints .i64 es), .ro (.ints .i64 rs)]] (.bool (rightB id p es rs)) := by
 by_cases h : id < 1 ∨ 12 < id
 ·rw [rightB_no h]
  exact right_out id h p es rs
 ·obtain ⟨i, rfl⟩ := Int.eq_ofNat_of_zero_le (show 0 ≤ id by omega)
  rw [rightB_eq (by omega) (by omega)]
  exact right_in i (by omega) (by omega) p es rs
theorem right_book (i : Nat) (h1 : 1 ≤ i) (h2 : i ≤ 12) : PCall Try.prog 82 [bookV i] (.bool true) := by
 have := right_ok i (bPlain i) (bE i) (bR i)
 rwa [show rightB i (bPlain i) (bE i) (bR i) = true from right_iff.2 ⟨i, rfl, h1, h2, rfl, rfl, rfl⟩] at this

theorem code_ok (i : Nat) (h1 : 1 ≤ i) (h2 : i ≤ 12) (e : Nat) (he : e < bMany i) : PCall Try.prog 45 [bookV i, .int .i64 (e : Nat)] (.tup [.ro (.ints .u8 (codeL (bPlain i) ((bRk i)[e]?.getD 0))), .int .i64 0]) := by
 have hB := bk_ok h1 h2
 have hdim := hB.dim
 have hlow := hB.low
 have hhigh := hB.high
 have hwide := hB.wide
 have hmany := hB.many
 have hplain := hB.plain
 have hE := bke h1 h2
 obtain ⟨ra, rb⟩ := hE.ra he
 have hrl := hE.rlen
 obtain ⟨r, hr⟩ : ∃ r, (bRk i)[e]?.getD 0 = r := ⟨_, rfl⟩
 obtain ⟨q, hq⟩ : ∃ q, bPlain i = q := ⟨_, rfl⟩
 rw [hr] at ra rb
 rw [hq] at hplain
 have hf := codeF (p := q) (r := r) hplain (by omega)
 have hfm := hf.m
 have hfn := hf.n
 have hfs := hf.s
 have hfa := hf.a
 have hq0 : r / 2 ^ q ≤ r := Nat.div_le_self _ _
 have hq1 : r % 2 ^ q ≤ r := Nat.mod_le _ _
 obtain ⟨c1, c2⟩ := code_put (p := q) (r := r) hplain (by omega)
 have hcn0 : cN q r = r / 2 ^ q + 1 := rfl
 obtain ⟨d, hd⟩ : ∃ d, r / 2 ^ q = d := ⟨_, rfl⟩
 obtain ⟨m, hm⟩ : ∃ m, r % 2 ^ q = m := ⟨_, rfl⟩
 rw [hd] at hq0 hfs hcn0
 rw [hm] at hq1 hfa c1 c2
 have hn289 : cN q r ≤ 289 := by omega
 have hcn : IntKind.i64.wrap ((d : Nat) + 1 : Int) = (cN q r : Nat) := by rw [w64 (by omega)]; omega
 have hcu : IntKind.u64.wrap ((cN q r : Nat) : Int) = (cN q r : Nat) := by show ((cN q r : Nat) : Int) % 18446744073709551616 = _; omega
 have hM : IntKind.i64.wrap (IntKind.i64.wrap (2 * ((cM q r : Nat) : Int)) - 1) = ((2 * cM q r - 1 : Nat) : Int) := by rw [w64 (n := 2 * ((cM q r : Nat) : Int)) (by omega), w64 (by omega)]; omega
 have hpl : (putL [] (cN q r : Nat) ((2 * cM q r - 1 : Nat) : Int)).length ≤ 17592186043000 := by
  have e1 : cN q r < 2 ^ (2 * cM q r - 1) := Nat.lt_of_lt_of_le hfn.1 (Nat.pow_le_pow_right (by omega) (by omega))
  rw [putL_nat (by omega) e1, List.length_append, bitsOf_len]
  simp
  omega
 refine pcall_body ty_ok Try.func45 rfl (by rfl) (by simp) ?_
 rw [Try.ntmps45]
 refine swp_seq fun K1 hK1 => ?_
 refine swp_region ty_ok ?_
 try simp (maxSteps := 1000000) [bookV]
 repeat' (first | apply And.intro | intro _)
 any_goals (first | (refine hK1 _ ?_; clear hK1) | omega | (simp_all <;> omega))
 refine swp_seq fun K2 hK2 => ?_
 refine swp_seq fun K3 hK3 => ?_
 refine swp_region ty_ok ?_
 refine runs_cut 1 fun R4 hR4 => ?_
 try simp (maxSteps := 1000000) [bookV, List.take_succ_cons, List.take_zero, List.drop_succ_cons, List.drop_zero]
 repeat' (first | apply And.intro | intro _)
 any_goals (first | (refine hR4 _ ?_; clear hR4) | omega | (simp_all <;> omega))
 refine runs_cut 1 fun R5 hR5 => ?_
 try simp (maxSteps := 1000000) [bookV, List.take_succ_cons, List.take_zero, List.drop_succ_cons, List.drop_zero]
 refine .inl ⟨_, right_book i h1 h2, ?_⟩
 try simp (maxSteps := 1000000) [bookV]
 repeat' (first | apply And.intro | intro _)
 any_goals (first | (refine hR5 _ ?_; clear hR5) | omega | (simp_all <;> omega))
 try simp (maxSteps := 1000000) [bookV, List.take_succ_cons, List.take_zero, List.drop_succ_cons, List.drop_zero]
 repeat' (first | apply And.intro | intro _)
 any_goals (first | (refine hK3 _ ?_; clear hK3) | omega | (simp_all <;> omega))
 refine swp_if fun C6 hC6 => ?_
 try simp (maxSteps := 1000000) [bookV]
 refine hC6 _ (fun hc6 => ?_) (fun hc6 => ?_)
 ·exact absurd hc6 (by simp)
 ·clear hC6
  try simp at hc6
  refine swp_skip ?_
  try simp only [thn, inBlk]
  refine hK2 _ ?_; clear hK2
  refine swp_seq fun K7 hK7 => ?_
  refine swp_seq fun K8 hK8 => ?_
  refine swp_region ty_ok ?_
  try simp (maxSteps := 1000000) [bookV]
  repeat' (first | apply And.intro | intro _)
  any_goals (first | (refine hK8 _ ?_; clear hK8) | omega | (simp_all <;> omega))
  refine swp_if fun C9 hC9 => ?_
  try simp (maxSteps := 1000000) [bookV]
  refine hC9 _ (fun hc9 => ?_) (fun hc9 => ?_)
  ·exfalso
   have h := hc9
   simp [hrl] at h
   omega
  ·clear hC9
   try simp at hc9
   refine swp_skip ?_
   try simp only [thn, inBlk]
   refine hK7 _ ?_; clear hK7
   refine swp_seq fun K10 hK10 => ?_
   refine swp_region ty_ok ?_
   try simp (maxSteps := 1000000) [bookV, hrl, ra]
   repeat' (first | apply And.intro | intro _)
   any_goals (first | (refine hK10 _ ?_; clear hK10) | omega | (simp_all <;> omega))
   refine swp_seq fun K11 hK11 => ?_
   refine swp_region ty_ok ?_
   try simp (maxSteps := 1000000) [bookV, hfs, hcn, hq]
   repeat' (first | apply And.intro | intro _)
   any_goals (first | (refine hK11 _ ?_; clear hK11) | omega | (simp_all <;> omega))
   refine swp_seq fun K12 hK12 => ?_
   refine swp_region ty_ok ?_
   refine runs_cut 2 fun R13 hR13 => ?_
   try simp (maxSteps := 1000000) [bookV, hcu, List.take_succ_cons, List.take_zero, List.drop_succ_cons, List.drop_zero]
   repeat' (first | apply And.intro | intro _)
   any_goals (first | (refine hR13 _ ?_; clear hR13) | omega | (simp_all <;> omega))
   refine runs_cut 1 fun R14 hR14 => ?_
   try simp (maxSteps := 1000000) [bookV, hcu, List.take_succ_cons, List.take_zero, List.drop_succ_cons, List.drop_zero]
   refine .inl ⟨_, (show PCall Try.prog 48 [.int .u64 (cN q r : Nat)] (.int .i64 (cM q r : Nat)) from len_ok (cN q r) (by omega)), ?_⟩
   try simp (maxSteps := 1000000) [bookV, hcu]
   repeat' (first | apply And.intro | intro _)
   any_goals (first | (refine hR14 _ ?_; clear hR14) | omega | (simp_all <;> omega))
   try simp (maxSteps := 1000000) [bookV, hcu, List.take_succ_cons, List.take_zero, List.drop_succ_cons, List.drop_zero]
   repeat' (first | apply And.intro | intro _)
   any_goals (first | (refine hK12 _ ?_; clear hK12) | omega | (simp_all <;> omega))
   refine swp_seq fun K15 hK15 => ?_
   refine swp_region ty_ok ?_
   refine runs_cut 4 fun R16 hR16 => ?_
   try simp (maxSteps := 1000000) [bookV, hM, List.take_succ_cons, List.take_zero, List.drop_succ_cons, List.drop_zero]
   repeat' (first | apply And.intro | intro _)
   any_goals (first | (refine hR16 _ ?_; clear hR16) | omega | (simp_all <;> omega))
   refine runs_cut 1 fun R17 hR17 => ?_
   try simp (maxSteps := 1000000) [bookV, hM, List.take_succ_cons, List.take_zero, List.drop_succ_cons, List.drop_zero]
   refine .inl ⟨_, put_ok [] (cN q r : Nat) ((2 * cM q r - 1 : Nat) : Int) (by simp) (by omega), ?_⟩
   try simp (maxSteps := 1000000) [bookV, hM]
   repeat' (first | apply And.intro | intro _)
   any_goals (first | (refine hR17 _ ?_; clear hR17) | omega | (simp_all <;> omega))
   try simp (maxSteps := 1000000) [bookV, hM, List.take_succ_cons, List.take_zero, List.drop_succ_cons, List.drop_zero]
   repeat' (first | apply And.intro | intro _)
   any_goals (first | (refine hK15 _ ?_; clear hK15) | omega | (simp_all <;> omega))
   refine swp_seq fun K18 hK18 => ?_
   refine swp_draw ty_ok mixed (ms := [0, 0, 0, 4, 12, 28, 62, 0, 128, 511, 1023, 1023, 4095, 8191]) (by kernel_rfl) ?_
   refine runD_cut 9 fun R19 hR19 => ?_
   try simp (maxSteps := 1000000) [bookV, hfa, hq, List.take_succ_cons, List.take_zero, List.drop_succ_cons, List.drop_zero]
   repeat' (first | apply And.intro | intro _)
   any_goals (first | (refine hR19 _ _ _ _ ?_; clear hR19) | omega | (simp_all <;> omega))
   refine runD_cut 1 fun R20 hR20 => ?_
   try simp (maxSteps := 1000000) [bookV, hfa, hq, List.take_succ_cons, List.take_zero, List.drop_succ_cons, List.drop_zero]
   refine .inl ⟨_, put_ok (putL [] (cN q r : Nat) ((2 * cM q r - 1 : Nat) : Int)) ((m : Nat) : Int) (q : Nat) hpl (by omega), ?_⟩
   try simp (maxSteps := 1000000) [bookV, hfa, hq]
   repeat' (first | apply And.intro | intro _)
   any_goals (first | (refine hR20 _ _ _ _ ?_; clear hR20) | omega | (simp_all <;> omega))
   try simp (maxSteps := 1000000) [bookV, hfa, hq, List.take_succ_cons, List.take_zero, List.drop_succ_cons, List.drop_zero]
   repeat' (first | apply And.intro | intro _)
   any_goals (first | kernel_rfl | (refine hK18 _ ?_; clear hK18) | omega | (simp_all <;> omega))
   refine swp_ret ?_
   simp [fnPost, Try.results45, resP, tupOf]
   rw [hq, hr]
   exact ⟨c1.symm, c2.symm⟩

end Go.Proofs.Ytgheplondkoedaa

