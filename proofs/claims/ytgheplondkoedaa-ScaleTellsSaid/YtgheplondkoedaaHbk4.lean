import Derived.Test.YtgheplondkoedaaWf
import Derived.Test.YtgheplondkoedaaTyh
import Derived.Test.YtgheplondkoedaaBkq
import Derived.Test.YtgheplondkoedaaHsrt
import Derived.Test.YtgheplondkoedaaHbk
import Derived.Test.YtgheplondkoedaaHbk2
import Derived.Test.YtgheplondkoedaaHbk3
import Derived.Test.YtgheplondkoedaaHbits
import Derived.Test.YtgheplondkoedaaHrd
import Derived.Test.YtgheplondkoedaaHrdq
import Derived.Test.YtgheplondkoedaaHbits2
namespace Go.Proofs.Ytgheplondkoedaa
set_option linter.unusedVariables false
set_option linter.unusedSimpArgs false
set_option maxRecDepth 10000
open Go Go.Pv

open Go.RowKit
def cN (p r : Nat) : Nat := r / 2 ^ p + 1
def cM (p r : Nat) : Nat := Lib.bitLen (cN p r)
/-- The code of a rank. -/
def codeL (p r : Nat) : List Int := List.replicate (cM p r - 1) 0 ++ bitsOf (cN p r) (cM p r) ++ bitsOf (r % 2 ^ p) p
structure CodeF (p r : Nat) : Prop where
 m : 1 ≤ cM p r ∧ cM p r ≤ 9
 n : cN p r < 2 ^ cM p r ∧ 2 ^ (cM p r - 1) ≤ cN p r
 b : bitsOf (cN p r) (2 * cM p r - 1) = List.replicate (cM p r - 1) 0 ++ bitsOf (cN p r) (cM p r)
 s : (r : Int).fdiv (2 ^ min p 64) = (r / 2 ^ p : Nat)
 a : IntKind.i64.wrap ((r % 2 ^ IntKind.i64.bits &&& (IntKind.i64.wrap (IntKind.i64.wrap (2 ^ min p 64) - 1) % 2 ^ IntKind.i64.bits).toNat : Nat) : Int) = (r % 2 ^ p : Nat)
theorem codeF_all : ∀ p : Fin 3, ∀ r : Fin 289, (1 ≤ cM p r ∧ cM p r ≤ 9) ∧ (cN p r < 2 ^ cM p r ∧ 2 ^ (cM p r - 1) ≤ cN p r) ∧ bitsOf (cN p r) (2 * cM p r - 1) = List.replicate (cM p r - 1) 0 ++ bitsOf (cN p r) (cM p r) ∧ (r.val : Int).fdiv (2 ^ min p.val 64) = (r.val / 2 ^ p.val : Nat) ∧ IntKind.i64.wrap ((r.val % 2 ^ IntKind.i64.bits &&& (IntKind.i64.wrap (IntKind.i64.wrap (2 ^ min p.val 64) - 1) % 2 ^ IntKind.i64.bits).toNat : Nat) : Int) = (r.val % 2 ^ p.val : Nat) := by decide +kernel
theorem codeF {p r : Nat} (hp : p ≤ 2) (hr : r < 289) : CodeF p r := by
 obtain ⟨a, b, c, d, e⟩ := codeF_all ⟨p, by omega⟩ ⟨r, hr⟩
 exact ⟨a, b, c, d, e⟩
theorem code_put {p r : Nat} (hp : p ≤ 2) (hr : r < 289) : putL (putL [] (cN p r : Nat) ((2 * cM p r - 1 : Nat) : Int)) ((r % 2 ^ p : Nat) : Int) (p : Nat) = codeL p r ∧ putE ((r % 2 ^ p : Nat) : Int) (p : Nat) = 0 := by
 have f := codeF hp hr
 have f1 := f.m
 have f2 := f.n
 have hp2 : r % 2 ^ p < 2 ^ p := Nat.mod_lt _ (Nat.pow_pos (by omega))
 have e1 : cN p r < 2 ^ (2 * cM p r - 1) := Nat.lt_of_lt_of_le f2.1 (Nat.pow_le_pow_right (by omega) (by omega))
 rw [putL_nat (by omega) e1, putL_nat (by omega) hp2, f.b]
 refine ⟨by simp [codeL], putE_yes (putOk_nat (by omega) hp2)⟩
/-- The place of the one, behind noughts. -/
def zr (b : List Int) : Nat → Nat → Int → Nat × Int × Int
 | 0, z, _ => (z, 0, 8)
 | f + 1, z, p => if getE b p 1 = 0 then (if getN b p 1 = 0 then zr b f (z + 1) (getP b p 1) else (z, getP b p 1, 0)) else (z, 0, getE b p 1)
theorem zr_end {b : List Int} {z : Nat} {p : Int} : zr b 0 z p = (z, 0, 8) := rfl
theorem zr_err {b : List Int} {f z : Nat} {p : Int} (hf : 0 < f) (h : ¬ getE b p 1 = 0) : zr b f z p = (z, 0, getE b p 1) := by
 obtain ⟨f, rfl⟩ : ∃ g, f = g + 1 := ⟨f - 1, by omega⟩
 rw [zr, if_neg h]
theorem zr_next {b : List Int} {f z : Nat} {p : Int} (hf : 0 < f) (h : getE b p 1 = 0) (hn : getN b p 1 = 0) : zr b f z p = zr b (f - 1) (z + 1) (getP b p 1) := by
 obtain ⟨f, rfl⟩ : ∃ g, f = g + 1 := ⟨f - 1, by omega⟩
 rw [zr, if_pos h, if_pos hn]; rfl
theorem zr_one {b : List Int} {f z : Nat} {p : Int} (hf : 0 < f) (h : getE b p 1 = 0) (hn : ¬ getN b p 1 = 0) : zr b f z p = (z, getP b p 1, 0) := by
 obtain ⟨f, rfl⟩ : ∃ g, f = g + 1 := ⟨f - 1, by omega⟩
 rw [zr, if_pos h, if_neg hn]
theorem zr_bd {b : List Int} : ∀ (f z : Nat) (p : Int), z + f ≤ 10 → (zr b f z p).2.2 = 0 → (zr b f z p).1 ≤ 9
 | 0, z, p, _, h => by cases h
 | f + 1, z, p, hz, h => by
  rw [zr] at h ⊢
  split at h
  ·rename_i h1
   rw [if_pos h1]
   split at h
   ·rename_i h2
    rw [if_pos h2]
    exact zr_bd f _ _ (by omega) h
   ·rename_i h2
    rw [if_neg h2]
    show z ≤ 9
    omega
  ·rename_i h1
   exact absurd h h1
def zZ (b : List Int) (at_ : Int) : Nat := (zr b 10 0 at_).1
def zP (b : List Int) (at_ : Int) : Int := (zr b 10 0 at_).2.1
def zE (b : List Int) (at_ : Int) : Int := (zr b 10 0 at_).2.2
def hN (b : List Int) (at_ : Int) : Int := getN b (zP b at_) (zZ b at_ : Nat)
def hP (b : List Int) (at_ : Int) : Int := getP b (zP b at_) (zZ b at_ : Nat)
def hE (b : List Int) (at_ : Int) : Int := getE b (zP b at_) (zZ b at_ : Nat)
def lN (p : Nat) (b : List Int) (at_ : Int) : Int := getN b (hP b at_) (p : Nat)
def lP (p : Nat) (b : List Int) (at_ : Int) : Int := getP b (hP b at_) (p : Nat)
def lE (p : Nat) (b : List Int) (at_ : Int) : Int := getE b (hP b at_) (p : Nat)
def rkR (p : Nat) (b : List Int) (at_ : Int) : Int := ((2 : Int) ^ zZ b at_ + hN b at_ - 1) * (2 : Int) ^ p + lN p b at_
def fdE (p N : Nat) (b : List Int) (at_ : Int) : Int := if zE b at_ = 0 then (if hE b at_ = 0 then (if lE p b at_ = 0 then (if rkR p b at_ < N then 0 else 8) else lE p b at_) else hE b at_) else zE b at_
def fdN (p : Nat) (es : List Int) (b : List Int) (at_ : Int) : Int := if fdE p es.length b at_ = 0 then es[(rkR p b at_).toNat]?.getD 0 else 0
def fdP (p : Nat) (es : List Int) (b : List Int) (at_ : Int) : Int := if fdE p es.length b at_ = 0 then lP p b at_ else 0
theorem fd_err {p : Nat} {es b : List Int} {at_ e : Int} (h : fdE p es.length b at_ = e) (h0 : ¬ e = 0) : fdN p es b at_ = 0 ∧ fdP p es b at_ = 0 ∧ fdE p es.length b at_ = e := ⟨by rw [fdN, h, if_neg h0], by rw [fdP, h, if_neg h0], h⟩
theorem fd_z {p N : Nat} {b : List Int} {at_ : Int} (h : ¬ zE b at_ = 0) : fdE p N b at_ = zE b at_ := if_neg h
theorem fd_h {p N : Nat} {b : List Int} {at_ : Int} (h : zE b at_ = 0) (h1 : ¬ hE b at_ = 0) : fdE p N b at_ = hE b at_ := by rw [fdE, if_pos h, if_neg h1]
theorem fd_l {p N : Nat} {b : List Int} {at_ : Int} (h : zE b at_ = 0) (h1 : hE b at_ = 0) (h2 : ¬ lE p b at_ = 0) : fdE p N b at_ = lE p b at_ := by rw [fdE, if_pos h, if_pos h1, if_neg h2]
theorem fd_r {p N : Nat} {b : List Int} {at_ : Int} (h : zE b at_ = 0) (h1 : hE b at_ = 0) (h2 : lE p b at_ = 0) (h3 : ¬ rkR p b at_ < N) : fdE p N b at_ = 8 := by rw [fdE, if_pos h, if_pos h1, if_pos h2, if_neg h3]
theorem fd_ok {p : Nat} {es b : List Int} {at_ : Int} (h : zE b at_ = 0) (h1 : hE b at_ = 0) (h2 : lE p b at_ = 0) (h3 : rkR p b at_ < es.length) : fdN p es b at_ = es[(rkR p b at_).toNat]?.getD 0 ∧ fdP p es b at_ = lP p b at_ ∧ fdE p es.length b at_ = 0 := by
 have : fdE p es.length b at_ = 0 := by rw [fdE, if_pos h, if_pos h1, if_pos h2, if_pos h3]
 exact ⟨if_pos this, if_pos this, this⟩
theorem nn {b : List Int} (hp : ∀ k : Nat, 0 ≤ b[k]?.getD 0 ∧ b[k]?.getD 0 ≤ 255) : ∀ y ∈ b, 0 ≤ y := fun y hy => by
 obtain ⟨k, hk, rfl⟩ := List.getElem_of_mem hy
 have := (hp k).1
 rwa [List.getElem?_eq_getElem hk] at this
theorem bit1 {b : List Int} (hp : ∀ k : Nat, 0 ≤ b[k]?.getD 0 ∧ b[k]?.getD 0 ≤ 255) (q : Int) : getN b q 1 = 0 ∨ getN b q 1 = 1 := by
 have := getN_bd (b := b) (p := q) (s := 1) (nn hp)
 have e : ((2 ^ 1 : Nat) : Int) = 2 := rfl
 rw [e] at this
 have e1 : ((1 : Nat) : Int) = 1 := rfl
 rw [e1] at this
 omega
theorem shl_z {k : Nat} (h : k ≤ 9) : IntKind.i64.wrap (2 ^ min k 64) = ((2 ^ k : Nat) : Int) := by
 have : ∀ k : Fin 10, IntKind.i64.wrap (2 ^ min k.val 64) = ((2 ^ k.val : Nat) : Int) := by decide
 exact this ⟨k, by omega⟩
theorem shl_p {x : Int} {p : Nat} (hp : p ≤ 2) (hx : 0 ≤ x ∧ x ≤ 100000) : IntKind.i64.wrap (x * 2 ^ min p 64) = x * (2 ^ p : Nat) := by
 have : p = 0 ∨ p = 1 ∨ p = 2 := by omega
 rcases this with rfl | rfl | rfl
 ·show IntKind.i64.wrap (x * 1) = x * 1; rw [w64 (by omega)]
 ·show IntKind.i64.wrap (x * 2) = x * 2; rw [w64 (by omega)]
 ·show IntKind.i64.wrap (x * 4) = x * 4; rw [w64 (by omega)]
theorem rk_wrap {x l : Int} {p : Nat} (hp : p ≤ 2) (hx : 0 ≤ x ∧ x ≤ 100000) (hl : 0 ≤ l ∧ l < ((2 ^ p : Nat) : Int)) : IntKind.i64.wrap (x * (2 ^ p : Nat) + l) = x * (2 ^ p : Nat) + l ∧ 0 ≤ x * (2 ^ p : Nat) + l := by
 have : p = 0 ∨ p = 1 ∨ p = 2 := by omega
 rcases this with rfl | rfl | rfl
 ·have : ((2 ^ 0 : Nat) : Int) = 1 := rfl
  rw [this] at *; rw [w64 (by omega)]; omega
 ·have : ((2 ^ 1 : Nat) : Int) = 2 := rfl
  rw [this] at *; rw [w64 (by omega)]; omega
 ·have : ((2 ^ 2 : Nat) : Int) = 4 := rfl
  rw [this] at *; rw [w64 (by omega)]; omega
structure RkF (p : Nat) (b : List Int) (at_ : Int) : Prop where
 z : zZ b at_ ≤ 9
 s : IntKind.i64.wrap (2 ^ min (zZ b at_) 64) = (2 : Int) ^ zZ b at_
 a : IntKind.i64.wrap ((2 : Int) ^ zZ b at_ + getN b (zP b at_) (zZ b at_ : Nat)) = (2 : Int) ^ zZ b at_ + getN b (zP b at_) (zZ b at_ : Nat)
 o : IntKind.i64.wrap ((2 : Int) ^ zZ b at_ + getN b (zP b at_) (zZ b at_ : Nat) - 1) = (2 : Int) ^ zZ b at_ + getN b (zP b at_) (zZ b at_ : Nat) - 1
 t : IntKind.i64.wrap (((2 : Int) ^ zZ b at_ + getN b (zP b at_) (zZ b at_ : Nat) - 1) * 2 ^ min p 64) = ((2 : Int) ^ zZ b at_ + getN b (zP b at_) (zZ b at_ : Nat) - 1) * (2 : Int) ^ p
 u : IntKind.i64.wrap (((2 : Int) ^ zZ b at_ + getN b (zP b at_) (zZ b at_ : Nat) - 1) * (2 : Int) ^ p) = ((2 : Int) ^ zZ b at_ + getN b (zP b at_) (zZ b at_ : Nat) - 1) * (2 : Int) ^ p
 l : IntKind.i64.wrap (((2 : Int) ^ zZ b at_ + getN b (zP b at_) (zZ b at_ : Nat) - 1) * (2 : Int) ^ p + getN b (hP b at_) (p : Nat)) = rkR p b at_
 r : 0 ≤ rkR p b at_
theorem rkF {p : Nat} {b : List Int} {at_ : Int} (hp : ∀ k : Nat, 0 ≤ b[k]?.getD 0 ∧ b[k]?.getD 0 ≤ 255) (h2 : p ≤ 2) (hz : zE b at_ = 0) : RkF p b at_ := by
 have h9 : zZ b at_ ≤ 9 := zr_bd 10 0 at_ (by omega) hz
 have hA : 2 ^ zZ b at_ ≤ 2 ^ 9 := Nat.pow_le_pow_right (by omega) h9
 have hA0 : 0 < 2 ^ zZ b at_ := Nat.pow_pos (by omega)
 have hh := getN_bd (b := b) (p := zP b at_) (s := zZ b at_) (nn hp)
 have hl := getN_bd (b := b) (p := hP b at_) (s := p) (nn hp)
 have cA : (2 : Int) ^ zZ b at_ = ((2 ^ zZ b at_ : Nat) : Int) := by push_cast; rfl
 have cP : (2 : Int) ^ p = ((2 ^ p : Nat) : Int) := by push_cast; rfl
 have hs := shl_z h9
 obtain ⟨A, hAe⟩ : ∃ A : Nat, 2 ^ zZ b at_ = A := ⟨_, rfl⟩
 rw [hAe] at hh hA hA0 cA hs
 have k0 := rk_wrap (x := (A : Int) + getN b (zP b at_) (zZ b at_ : Nat) - 1) h2 (by omega) (l := 0) ⟨by omega, by have : 0 < 2 ^ p := Nat.pow_pos (by omega); omega⟩
 have k1 := rk_wrap (x := (A : Int) + getN b (zP b at_) (zZ b at_ : Nat) - 1) h2 (by omega) hl
 have k2 := shl_p (x := (A : Int) + getN b (zP b at_) (zZ b at_ : Nat) - 1) h2 (by omega)
 rw [Int.add_zero] at k0
 rw [← cP] at k0 k1 k2
 refine ⟨h9, hs.trans cA.symm, ?_, ?_, ?_, ?_, ?_, ?_⟩
 ·rw [cA, w64 (by omega)]
 ·rw [cA, w64 (by omega)]
 ·rw [cA]; exact k2
 ·rw [cA]; exact k0.1
 ·unfold rkR hN lN; rw [cA]; exact k1.1
 ·unfold rkR hN lN; rw [cA]; exact k1.2
theorem zr_nx {b : List Int} {at_ q : Int} {z : Nat} (hp : ∀ k : Nat, 0 ≤ b[k]?.getD 0 ∧ b[k]?.getD 0 ≤ 255) (hz : z ≤ 9) (h0 : getE b q 1 = 0) (h : zr b (10 - z) z q = zr b 10 0 at_) : getN b q 1 = 0 ∧ zr b (10 - (z + 1)) (z + 1) (getP b q 1) = zr b 10 0 at_ ∨ getN b q 1 = 1 ∧ 1 ≤ z + 1 ∧ zr b 10 0 at_ = (z + 1 - 1, getP b q 1, 0) := by
 rcases bit1 hp q with h1 | h1
 ·exact .inl ⟨h1, by rw [show 10 - (z + 1) = 10 - z - 1 by omega]; exact (zr_next (by omega) h0 h1).symm.trans h⟩
 ·exact .inr ⟨h1, by omega, by rw [Nat.add_sub_cancel, ← h]; exact zr_one (by omega) h0 (by omega)⟩
theorem zr_fin {b : List Int} {at_ q : Int} {z : Nat} (h : zr b 10 0 at_ = (z, q, 0)) : zE b at_ = 0 ∧ zP b at_ = q ∧ zZ b at_ = z := by
 unfold zE zP zZ
 rw [h]
 exact ⟨rfl, rfl, rfl⟩

attribute [local simp] runs gd step1 need evu un opnds opv ev cst cst1 cstL getT getH putT onL nxt argT cellsOf PV.one thn inBlk jmp fldP ldP ldC live Cells.len Cells.get Cells.w sug ldv bin eqF eq1 ops2 sh2 binv Tk.agg stC apC rdS apS cpC cpS mvL zp argsP idx fillP toInts chunks mkC ixS ixA oidx slP sl0 slA optL List.append mxF bltn frzA frz frzL frz1 pur1 Cells.pur PV.scal scal1 runD rdO PV.ids id1 zids ety Eff.on cnd minb and1b ifmax ifmin mxv sugI strv w0 w1 w2 wm1
theorem right_out (id : Int) (h : id < 1 ∨ 12 < id) (p : Int) (es rs : List Int) : PCall Try.prog 82 [.agg [.int .i64 id, .int .i64 p, .ro (.ints .i64 es), .ro (.ints .i64 rs)]] (.bool false) := by
 refine pcall_body ty_ok Try.func82 rfl (by rfl) (by simp) ?_
 rw [Try.ntmps82]
 refine swp_seq fun K1 hK1 => ?_
 refine swp_region ty_ok ?_
 try simp (maxSteps := 1000000)
 repeat' (first | apply And.intro | intro _)
 any_goals (first | (refine hK1 _ ?_; clear hK1) | omega | (simp_all <;> omega))
 refine swp_seq fun K2 hK2 => ?_
 refine swp_region ty_ok ?_
 refine runs_cut 2 fun R3 hR3 => ?_
 try simp (maxSteps := 1000000) [List.take_succ_cons, List.take_zero, List.drop_succ_cons, List.drop_zero]
 repeat' (first | apply And.intro | intro _)
 any_goals (first | (refine hR3 _ ?_; clear hR3) | omega | (simp_all <;> omega))
 refine runs_cut 1 fun R4 hR4 => ?_
 try simp (maxSteps := 1000000) [List.take_succ_cons, List.take_zero, List.drop_succ_cons, List.drop_zero]
 refine .inl ⟨_, of_no id h, ?_⟩
 try simp (maxSteps := 1000000)
 repeat' (first | apply And.intro | intro _)
 any_goals (first | (refine hR4 _ ?_; clear hR4) | omega | (simp_all <;> omega))
 try simp (maxSteps := 1000000) [List.take_succ_cons, List.take_zero, List.drop_succ_cons, List.drop_zero]
 repeat' (first | apply And.intro | intro _)
 any_goals (first | (refine hK2 _ ?_; clear hK2) | omega | (simp_all <;> omega))
 refine swp_seq fun K5 hK5 => ?_
 refine swp_seq fun K6 hK6 => ?_
 refine swp_draw ty_ok mixed (ms := [0, 1, 3, 7, 15, 7, 39, 127, 255, 511, 1023, 2047, 4095, 1023, 9215, 32767, 65535, 131071, 262143, 524287, 1048575, 262143, 2359295, 8388607, 16777215]) (by kernel_rfl) ?_
 refine runD_cut 7 fun R7 hR7 => ?_
 try simp (maxSteps := 1000000) [List.take_succ_cons, List.take_zero, List.drop_succ_cons, List.drop_zero]
 repeat' (first | apply And.intro | intro _)
 any_goals (first | (refine hR7 _ _ _ _ ?_; clear hR7) | omega | (simp_all <;> omega))
 refine runD_cut 7 fun R8 hR8 => ?_
 try simp (maxSteps := 1000000) [List.take_succ_cons, List.take_zero, List.drop_succ_cons, List.drop_zero]
 repeat' (first | apply And.intro | intro _)
 any_goals (first | (refine hR8 _ _ _ _ ?_; clear hR8) | omega | (simp_all <;> omega))
 refine runD_cut 1 fun R9 hR9 => ?_
 try simp (maxSteps := 1000000) [List.take_succ_cons, List.take_zero, List.drop_succ_cons, List.drop_zero]
 first | refine .inl ⟨.int .i64 0, ?_⟩ | refine ⟨.int .i64 0, ?_⟩
 repeat' (first | apply And.intro | intro _)
 any_goals (first | (refine hR9 _ _ _ _ ?_; clear hR9) | omega | (simp_all <;> omega))
 refine runD_cut 7 fun R10 hR10 => ?_
 try simp (maxSteps := 1000000) [List.take_succ_cons, List.take_zero, List.drop_succ_cons, List.drop_zero]
 repeat' (first | apply And.intro | intro _)
 any_goals (first | (refine hR10 _ _ _ _ ?_; clear hR10) | omega | (simp_all <;> omega))
 refine runD_cut 1 fun R11 hR11 => ?_
 try simp (maxSteps := 1000000) [List.take_succ_cons, List.take_zero, List.drop_succ_cons, List.drop_zero]
 first | refine .inl ⟨.int .i64 0, ?_⟩ | refine ⟨.int .i64 0, ?_⟩
 repeat' (first | apply And.intro | intro _)
 any_goals (first | (refine hR11 _ _ _ _ ?_; clear hR11) | omega | (simp_all <;> omega))
 try simp (maxSteps := 1000000) [List.take_succ_cons, List.take_zero, List.drop_succ_cons, List.drop_zero]
 repeat' (first | apply And.intro | intro _)
 any_goals (first | kernel_rfl | (refine hK6 _ ?_; clear hK6) | omega | (simp_all <;> omega))
 refine swp_if fun C13 hC13 => ?_
 try simp (maxSteps := 1000000)
 refine hC13 _ (fun hc13 => ?_) (fun hc13 => ?_)
 ·clear hC13
  try simp at hc13
  refine swp_seq fun K14 hK14 => ?_
  refine swp_region ty_ok ?_
  try simp (maxSteps := 1000000)
  repeat' (first | apply And.intro | intro _)
  any_goals (first | (refine hK14 _ ?_; clear hK14) | omega | (simp_all <;> omega))
  refine swp_ret ?_
  simp [fnPost, Try.results82, resP, tupOf]
 ·exact absurd hc13 (by simp)

theorem right_ok (id p : Int) (es rs : List Int) : PCall Try.prog 82 [.agg [.int .i64 id, .int .i64 p, .ro (.ints .i64 es), .ro (.ints .i64 rs)]] (.bool (rightB id p es rs)) := by
 by_cases h : id < 1 ∨ 12 < id
 ·rw [rightB_no h]
  exact right_out id h p es rs
 ·obtain ⟨i, rfl⟩ := Int.eq_ofNat_of_zero_le (show 0 ≤ id by omega)
  rw [rightB_eq (by omega) (by omega)]
  exact right_in i (by omega) (by omega) p es rs
theorem right_book (i : Nat) (h1 : 1 ≤ i) (h2 : i ≤ 12) : PCall Try.prog 82 [bookV i] (.bool true) := by
 have := right_ok i (bPlain i) (bE i) (bR i)
 rwa [show rightB i (bPlain i) (bE i) (bR i) = true from right_iff.2 ⟨i, rfl, h1, h2, rfl, rfl, rfl⟩] at this

theorem code_ok (i : Nat) (h1 : 1 ≤ i) (h2 : i ≤ 12) (e : Nat) (he : e < bMany i) : PCall Try.prog 45 [bookV i, .int .i64 (e : Nat)] (.tup [.ro (.ints .u8 (codeL (bPlain i) ((bRk i)[e]?.getD 0))), .int .i64 0]) := by
 have hB := bk_ok h1 h2
 have hdim := hB.dim
 have hlow := hB.low
 have hhigh := hB.high
 have hwide := hB.wide
 have hmany := hB.many
 have hplain := hB.plain
 have hE := bke h1 h2
 obtain ⟨ra, rb⟩ := hE.ra he
 have hrl := hE.rlen
 obtain ⟨r, hr⟩ : ∃ r, (bRk i)[e]?.getD 0 = r := ⟨_, rfl⟩
 obtain ⟨q, hq⟩ : ∃ q, bPlain i = q := ⟨_, rfl⟩
 rw [hr] at ra rb
 rw [hq] at hplain
 have hf := codeF (p := q) (r := r) hplain (by omega)
 have hfm := hf.m
 have hfn := hf.n
 have hfs := hf.s
 have hfa := hf.a
 have hq0 : r / 2 ^ q ≤ r := Nat.div_le_self _ _
 have hq1 : r % 2 ^ q ≤ r := Nat.mod_le _ _
 obtain ⟨c1, c2⟩ := code_put (p := q) (r := r) hplain (by omega)
 have hcn0 : cN q r = r / 2 ^ q + 1 := rfl
 obtain ⟨d, hd⟩ : ∃ d, r / 2 ^ q = d := ⟨_, rfl⟩
 obtain ⟨m, hm⟩ : ∃ m, r % 2 ^ q = m := ⟨_, rfl⟩
 rw [hd] at hq0 hfs hcn0
 rw [hm] at hq1 hfa c1 c2
 have hn289 : cN q r ≤ 289 := by omega
 have hcn : IntKind.i64.wrap ((d : Nat) + 1 : Int) = (cN q r : Nat) := by rw [w64 (by omega)]; omega
 have hcu : IntKind.u64.wrap ((cN q r : Nat) : Int) = (cN q r : Nat) := by show ((cN q r : Nat) : Int) % 18446744073709551616 = _; omega
 have hM : IntKind.i64.wrap (IntKind.i64.wrap (2 * ((cM q r : Nat) : Int)) - 1) = ((2 * cM q r - 1 : Nat) : Int) := by rw [w64 (n := 2 * ((cM q r : Nat) : Int)) (by omega), w64 (by omega)]; omega
 have hpl : (putL [] (cN q r : Nat) ((2 * cM q r - 1 : Nat) : Int)).length ≤ 17592186043000 := by
  have e1 : cN q r < 2 ^ (2 * cM q r - 1) := Nat.lt_of_lt_of_le hfn.1 (Nat.pow_le_pow_right (by omega) (by omega))
  rw [putL_nat (by omega) e1, List.length_append, bitsOf_len]
  simp
  omega
 refine pcall_body ty_ok Try.func45 rfl (by rfl) (by simp) ?_
 rw [Try.ntmps45]
 refine swp_seq fun K1 hK1 => ?_
 refine swp_region ty_ok ?_
 try simp (maxSteps := 1000000) [bookV]
 repeat' (first | apply And.intro | intro _)
 any_goals (first | (refine hK1 _ ?_; clear hK1) | omega | (simp_all <;> omega))
 refine swp_seq fun K2 hK2 => ?_
 refine swp_seq fun K3 hK3 => ?_
 refine swp_region ty_ok ?_
 refine runs_cut 1 fun R4 hR4 => ?_
 try simp (maxSteps := 1000000) [bookV, List.take_succ_cons, List.take_zero, List.drop_succ_cons, List.drop_zero]
 repeat' (first | apply And.intro | intro _)
 any_goals (first | (refine hR4 _ ?_; clear hR4) | omega | (simp_all <;> omega))
 refine runs_cut 1 fun R5 hR5 => ?_
 try simp (maxSteps := 1000000) [bookV, List.take_succ_cons, List.take_zero, List.drop_succ_cons, List.drop_zero]
 refine .inl ⟨_, right_book i h1 h2, ?_⟩
 try simp (maxSteps := 1000000) [bookV]
 repeat' (first | apply And.intro | intro _)
 any_goals (first | (refine hR5 _ ?_; clear hR5) | omega | (simp_all <;> omega))
 try simp (maxSteps := 1000000) [bookV, List.take_succ_cons, List.take_zero, List.drop_succ_cons, List.drop_zero]
 repeat' (first | apply And.intro | intro _)
 any_goals (first | (refine hK3 _ ?_; clear hK3) | omega | (simp_all <;> omega))
 refine swp_if fun C6 hC6 => ?_
 try simp (maxSteps := 1000000) [bookV]
 refine hC6 _ (fun hc6 => ?_) (fun hc6 => ?_)
 ·exact absurd hc6 (by simp)
 ·clear hC6
  try simp at hc6
  refine swp_skip ?_
  try simp only [thn, inBlk]
  refine hK2 _ ?_; clear hK2
  refine swp_seq fun K7 hK7 => ?_
  refine swp_seq fun K8 hK8 => ?_
  refine swp_region ty_ok ?_
  try simp (maxSteps := 1000000) [bookV]
  repeat' (first | apply And.intro | intro _)
  any_goals (first | (refine hK8 _ ?_; clear hK8) | omega | (simp_all <;> omega))
  refine swp_if fun C9 hC9 => ?_
  try simp (maxSteps := 1000000) [bookV]
  refine hC9 _ (fun hc9 => ?_) (fun hc9 => ?_)
  ·exfalso
   have h := hc9
   simp [hrl] at h
   omega
  ·clear hC9
   try simp at hc9
   refine swp_skip ?_
   try simp only [thn, inBlk]
   refine hK7 _ ?_; clear hK7
   refine swp_seq fun K10 hK10 => ?_
   refine swp_region ty_ok ?_
   try simp (maxSteps := 1000000) [bookV, hrl, ra]
   repeat' (first | apply And.intro | intro _)
   any_goals (first | (refine hK10 _ ?_; clear hK10) | omega | (simp_all <;> omega))
   refine swp_seq fun K11 hK11 => ?_
   refine swp_region ty_ok ?_
   try simp (maxSteps := 1000000) [bookV, hfs, hcn, hq]
   repeat' (first | apply And.intro | intro _)
   any_goals (first | (refine hK11 _ ?_; clear hK11) | omega | (simp_all <;> omega))
   refine swp_seq fun K12 hK12 => ?_
   refine swp_region ty_ok ?_
   refine runs_cut 2 fun R13 hR13 => ?_
   try simp (maxSteps := 1000000) [bookV, hcu, List.take_succ_cons, List.take_zero, List.drop_succ_cons, List.drop_zero]
   repeat' (first | apply And.intro | intro _)
   any_goals (first | (refine hR13 _ ?_; clear hR13) | omega | (simp_all <;> omega))
   refine runs_cut 1 fun R14 hR14 => ?_
   try simp (maxSteps := 1000000) [bookV, hcu, List.take_succ_cons, List.take_zero, List.drop_succ_cons, List.drop_zero]
   refine .inl ⟨_, (show PCall Try.prog 48 [.int .u64 (cN q r : Nat)] (.int .i64 (cM q r : Nat)) from len_ok (cN q r) (by omega)), ?_⟩
   try simp (maxSteps := 1000000) [bookV, hcu]
   repeat' (first | apply And.intro | intro _)
   any_goals (first | (refine hR14 _ ?_; clear hR14) | omega | (simp_all <;> omega))
   try simp (maxSteps := 1000000) [bookV, hcu, List.take_succ_cons, List.take_zero, List.drop_succ_cons, List.drop_zero]
   repeat' (first | apply And.intro | intro _)
   any_goals (first | (refine hK12 _ ?_; clear hK12) | omega | (simp_all <;> omega))
   refine swp_seq fun K15 hK15 => ?_
   refine swp_region ty_ok ?_
   refine runs_cut 4 fun R16 hR16 => ?_
   try simp (maxSteps := 1000000) [bookV, hM, List.take_succ_cons, List.take_zero, List.drop_succ_cons, List.drop_zero]
   repeat' (first | apply And.intro | intro _)
   any_goals (first | (refine hR16 _ ?_; clear hR16) | omega | (simp_all <;> omega))
   refine runs_cut 1 fun R17 hR17 => ?_
   try simp (maxSteps := 1000000) [bookV, hM, List.take_succ_cons, List.take_zero, List.drop_succ_cons, List.drop_zero]
   refine .inl ⟨_, put_ok [] (cN q r : Nat) ((2 * cM q r - 1 : Nat) : Int) (by simp) (by omega), ?_⟩
   try simp (maxSteps := 1000000) [bookV, hM]
   repeat' (first | apply And.intro | intro _)
   any_goals (first | (refine hR17 _ ?_; clear hR17) | omega | (simp_all <;> omega))
   try simp (maxSteps := 1000000) [bookV, hM, List.take_succ_cons, List.take_zero, List.drop_succ_cons, List.drop_zero]
   repeat' (first | apply And.intro | intro _)
   any_goals (first | (refine hK15 _ ?_; clear hK15) | omega | (simp_all <;> omega))
   refine swp_seq fun K18 hK18 => ?_
   refine swp_draw ty_ok mixed (ms := [0, 0, 0, 4, 12, 28, 62, 0, 128, 511, 1023, 1023, 4095, 8191]) (by kernel_rfl) ?_
   refine runD_cut 9 fun R19 hR19 => ?_
   try simp (maxSteps := 1000000) [bookV, hfa, hq, List.take_succ_cons, List.take_zero, List.drop_succ_cons, List.drop_zero]
   repeat' (first | apply And.intro | intro _)
   any_goals (first | (refine hR19 _ _ _ _ ?_; clear hR19) | omega | (simp_all <;> omega))
   refine runD_cut 1 fun R20 hR20 => ?_
   try simp (maxSteps := 1000000) [bookV, hfa, hq, List.take_succ_cons, List.take_zero, List.drop_succ_cons, List.drop_zero]
   refine .inl ⟨_, put_ok (putL [] (cN q r : Nat) ((2 * cM q r - 1 : Nat) : Int)) ((m : Nat) : Int) (q : Nat) hpl (by omega), ?_⟩
   try simp (maxSteps := 1000000) [bookV, hfa, hq]
   repeat' (first | apply And.intro | intro _)
   any_goals (first | (refine hR20 _ _ _ _ ?_; clear hR20) | omega | (simp_all <;> omega))
   try simp (maxSteps := 1000000) [bookV, hfa, hq, List.take_succ_cons, List.take_zero, List.drop_succ_cons, List.drop_zero]
   repeat' (first | apply And.intro | intro _)
   any_goals (first | kernel_rfl | (refine hK18 _ ?_; clear hK18) | omega | (simp_all <;> omega))
   refine swp_ret ?_
   simp [fnPost, Try.results45, resP, tupOf]
   rw [hq, hr]
   exact ⟨c1.symm, c2.symm⟩

theorem read_ok (i : Nat) (h1 : 1 ≤ i) (h2 : i ≤ 12) (b : List Int) (at_ : Int) (hm : b.length ≤ 140737488355328) (hp : ∀ k : Nat, 0 ≤ b[k]?.getD 0 ∧ b[k]?.getD 0 ≤ 255) (hat : -9223372036854775808 ≤ at_ ∧ at_ ≤ 9223372036854775807) : PCall Try.prog 55 [bookV i, .ro (.ints .u8 b), .int .i64 at_] (.tup [.int .i64 (fdN (bPlain i) (bE i) b at_), .int .i64 (fdP (bPlain i) (bE i) b at_), .int .i64 (fdE (bPlain i) (bMany i) b at_)]) := by
 have hE := bke h1 h2
 have hB := bk_ok h1 h2
 have hel := hE.elen
 have hplain := hB.plain
 have hmany := hB.many
 rw [← hel]
 refine pcall_body ty_ok Try.func55 rfl (by rfl) (by simp) ?_
 rw [Try.ntmps55]
 refine swp_seq fun K1 hK1 => ?_
 refine swp_region ty_ok ?_
 try simp (maxSteps := 1000000) [bookV]
 repeat' (first | apply And.intro | intro _)
 any_goals (first | (refine hK1 _ ?_; clear hK1) | omega | (simp_all <;> omega))
 refine swp_seq fun K2 hK2 => ?_
 refine swp_seq fun K3 hK3 => ?_
 refine swp_region ty_ok ?_
 refine runs_cut 1 fun R4 hR4 => ?_
 try simp (maxSteps := 1000000) [bookV, List.take_succ_cons, List.take_zero, List.drop_succ_cons, List.drop_zero]
 repeat' (first | apply And.intro | intro _)
 any_goals (first | (refine hR4 _ ?_; clear hR4) | omega | (simp_all <;> omega))
 refine runs_cut 1 fun R5 hR5 => ?_
 try simp (maxSteps := 1000000) [bookV, List.take_succ_cons, List.take_zero, List.drop_succ_cons, List.drop_zero]
 refine .inl ⟨_, right_book i h1 h2, ?_⟩
 try simp (maxSteps := 1000000) [bookV]
 repeat' (first | apply And.intro | intro _)
 any_goals (first | (refine hR5 _ ?_; clear hR5) | omega | (simp_all <;> omega))
 try simp (maxSteps := 1000000) [bookV, List.take_succ_cons, List.take_zero, List.drop_succ_cons, List.drop_zero]
 repeat' (first | apply And.intro | intro _)
 any_goals (first | (refine hK3 _ ?_; clear hK3) | omega | (simp_all <;> omega))
 refine swp_if fun C6 hC6 => ?_
 try simp (maxSteps := 1000000) [bookV]
 refine hC6 _ (fun hc6 => ?_) (fun hc6 => ?_)
 ·exact absurd hc6 (by simp)
 ·clear hC6
  try simp at hc6
  refine swp_skip ?_
  try simp only [thn, inBlk]
  refine hK2 _ ?_; clear hK2
  refine swp_seq fun K7 hK7 => ?_
  refine swp_region ty_ok ?_
  try simp (maxSteps := 1000000) [bookV]
  repeat' (first | apply And.intro | intro _)
  any_goals (first | (refine hK7 _ ?_; clear hK7) | omega | (simp_all <;> omega))
  refine swp_seq fun K8 hK8 => ?_
  refine swp_seq fun K9 hK9 => ?_
  refine swp_region ty_ok ?_
  try simp (maxSteps := 1000000) [bookV]
  repeat' (first | apply And.intro | intro _)
  any_goals (first | (refine hK9 _ ?_; clear hK9) | omega | (simp_all <;> omega))
  refine swp_block ?_
  refine swp_loop 1 (fun m_ s_ => ∃ (z : Nat) (o : Int) (q : Int), (z ≤ 10) ∧ (-9223372036854775808 ≤ q ∧ q ≤ 9223372036854775807) ∧ (o = 0 ∧ zr b (10 - z) z q = zr b 10 0 at_ ∨ o = 1 ∧ 1 ≤ z ∧ zr b 10 0 at_ = (z - 1, q, 0)) ∧ s_ = ⟨[(3, .ptr 0 0 0 1), (1, .ro (.ints .u8 b)), (9, .int .i64 (z : Nat)), (10, .int .i64 o), (7, .int .i64 q)], [(0, some ⟨.rows 4 [[.int .i64 (i : Nat), .int .i64 (bPlain i : Nat), .ro (.ints .i64 (bE i)), .ro (.ints .i64 (bR i))]], true, 25⟩)], 1⟩ ∧ m_ = 11 - z) _ ⟨[(3, .ptr 0 0 0 1), (1, .ro (.ints .u8 b)), (9, .int .i64 (0 : Nat)), (10, .int .i64 0), (7, .int .i64 at_)], [(0, some ⟨.rows 4 [[.int .i64 (i : Nat), .int .i64 (bPlain i : Nat), .ro (.ints .i64 (bE i)), .ro (.ints .i64 (bR i))]], true, 25⟩)], 1⟩ ⟨by simp [getT, PV.lo, lo1], by simp [getH, Blk.lo, Cells.lo, lo1], rfl, by omega⟩ ⟨(0), (0), (at_), by omega, by exact hat, by exact .inl ⟨rfl, rfl⟩, rfl, rfl⟩ ?_
  rintro m_ s_ ⟨z, o, q, hL10_0, hL10_1, hL10_2, rfl, rfl⟩ KL10 hL10
  have hzw := wnext (i := z) (by omega)
  have hq := (by assumption : -9223372036854775808 ≤ q ∧ q ≤ 9223372036854775807)
  have hI := (by assumption : o = 0 ∧ zr b (10 - z) z q = zr b 10 0 at_ ∨ o = 1 ∧ 1 ≤ z ∧ zr b 10 0 at_ = (z - 1, q, 0))
  refine swp_seq fun K11 hK11 => ?_
  refine swp_seq fun K12 hK12 => ?_
  refine swp_region ty_ok ?_
  try simp (maxSteps := 1000000) [bookV]
  repeat' (first | apply And.intro | intro _)
  any_goals (first | (refine hK12 _ ?_; clear hK12) | omega | (simp_all <;> omega))
  refine swp_if fun C13 hC13 => ?_
  try simp (maxSteps := 1000000) [bookV]
  refine hC13 _ (fun hc13 => ?_) (fun hc13 => ?_)
  ·clear hC13
   try simp at hc13
   refine swp_skip ?_
   try simp only [thn, inBlk]
   refine hK11 _ ?_; clear hK11
   refine swp_seq fun K14 hK14 => ?_
   refine swp_block ?_
   refine swp_seq fun K15 hK15 => ?_
   refine swp_seq fun K16 hK16 => ?_
   refine swp_region ty_ok ?_
   try simp (maxSteps := 1000000) [bookV]
   repeat' (first | apply And.intro | intro _)
   any_goals (first | (refine hK16 _ ?_; clear hK16) | omega | (simp_all <;> omega))
   refine swp_if fun C17 hC17 => ?_
   try simp (maxSteps := 1000000) [bookV]
   refine hC17 _ (fun hc17 => ?_) (fun hc17 => ?_)
   ·clear hC17
    try simp at hc17
    refine swp_seq fun K18 hK18 => ?_
    refine swp_region ty_ok ?_
    try simp (maxSteps := 1000000) [bookV]
    repeat' (first | apply And.intro | intro _)
    any_goals (first | (refine hK18 _ ?_; clear hK18) | omega | (simp_all <;> omega))
    refine swp_ret ?_
    simp [fnPost, Try.results55, resP, tupOf]
    have ho : o = 0 ∧ zr b (10 - z) z q = zr b 10 0 at_ := (by rcases hI with h | h; exact h; omega)
    have e0 : zE b at_ = 8 := by unfold zE; rw [← ho.2, show 10 - z = 0 by omega]; rfl
    exact fd_err ((fd_z (by omega)).trans e0) (by omega)
   ·clear hC17
    try simp at hc17
    refine swp_skip ?_
    try simp only [thn, inBlk]
    refine hK15 _ ?_; clear hK15
    refine swp_seq fun K19 hK19 => ?_
    have ho : o = 0 ∧ zr b (10 - z) z q = zr b 10 0 at_ := (by rcases hI with h | h; exact h; omega)
    refine swp_region ty_ok ?_
    refine runs_cut 2 fun R20 hR20 => ?_
    try simp (maxSteps := 1000000) [bookV, List.take_succ_cons, List.take_zero, List.drop_succ_cons, List.drop_zero]
    repeat' (first | apply And.intro | intro _)
    any_goals (first | (refine hR20 _ ?_; clear hR20) | omega | (simp_all <;> omega))
    refine runs_cut 1 fun R21 hR21 => ?_
    try simp (maxSteps := 1000000) [bookV, List.take_succ_cons, List.take_zero, List.drop_succ_cons, List.drop_zero]
    refine .inl ⟨_, get_ok b q 1 hm hp hq, ?_⟩
    try simp (maxSteps := 1000000) [bookV]
    repeat' (first | apply And.intro | intro _)
    any_goals (first | (refine hR21 _ ?_; clear hR21) | omega | (simp_all <;> omega))
    try simp (maxSteps := 1000000) [bookV, List.take_succ_cons, List.take_zero, List.drop_succ_cons, List.drop_zero]
    repeat' (first | apply And.intro | intro _)
    any_goals (first | (refine hK19 _ ?_; clear hK19) | omega | (simp_all <;> omega))
    refine swp_seq fun K22 hK22 => ?_
    refine swp_region ty_ok ?_
    try simp (maxSteps := 1000000) [bookV]
    repeat' (first | apply And.intro | intro _)
    any_goals (first | (refine hK22 _ ?_; clear hK22) | omega | (simp_all <;> omega))
    refine swp_if fun C23 hC23 => ?_
    try simp (maxSteps := 1000000) [bookV]
    refine hC23 _ (fun hc23 => ?_) (fun hc23 => ?_)
    ·clear hC23
     try simp at hc23
     refine swp_seq fun K24 hK24 => ?_
     refine swp_region ty_ok ?_
     try simp (maxSteps := 1000000) [bookV]
     repeat' (first | apply And.intro | intro _)
     any_goals (first | (refine hK24 _ ?_; clear hK24) | omega | (simp_all <;> omega))
     refine swp_ret ?_
     simp [fnPost, Try.results55, resP, tupOf]
     have e0 : zE b at_ = getE b q 1 := by unfold zE; rw [← ho.2, zr_err (by omega) hc23]
     exact fd_err ((fd_z (by rw [e0]; exact hc23)).trans e0) hc23
    ·clear hC23
     try simp at hc23
     refine swp_skip ?_
     try simp only [thn, inBlk]
     refine hK14 _ ?_; clear hK14
     refine swp_region ty_ok ?_
     try simp (maxSteps := 1000000) [bookV]
     repeat' apply And.intro
     any_goals (try omega)
     refine hL10 _ ⟨[(3, .ptr 0 0 0 1), (1, .ro (.ints .u8 b)), (9, .int .i64 ((z + 1) : Nat)), (10, .int .i64 (getN b q 1)), (7, .int .i64 (getP b q 1))], [(0, some ⟨.rows 4 [[.int .i64 (i : Nat), .int .i64 (bPlain i : Nat), .ro (.ints .i64 (bE i)), .ro (.ints .i64 (bR i))]], true, 25⟩)], 1⟩ _ ?_ ⟨(z + 1), (getN b q 1), (getP b q 1), by omega, by (have := getP_bd (b := b) (p := q) (size := 1) hm; omega), by exact zr_nx hp (by omega) (by have h := hc23; simpa using h) ho.2, rfl, rfl⟩ ⟨by simp [getT, PV.lo, lo1, hzw], by simp [getH, Blk.lo, Cells.lo, lo1], rfl, by omega⟩
     omega
  ·clear hC13
   try simp at hc13
   refine swp_exit ?_
   simp [thn, inBlk]
   refine hK8 _ ?_; clear hK8
   refine swp_seq fun K25 hK25 => ?_
   have ho1 : 1 ≤ z ∧ zr b 10 0 at_ = (z - 1, q, 0) := (by rcases hI with h | h; exact absurd h.1 hc13; exact ⟨h.2.1, h.2.2⟩)
   obtain ⟨hzE, hzP, hzZ⟩ := zr_fin ho1.2
   have hzw1 : IntKind.i64.wrap ((z : Int) - 1) = (zZ b at_ : Nat) := by rw [w64 (by omega)]; omega
   clear hI
   subst hzP
   refine swp_region ty_ok ?_
   refine runs_cut 4 fun R26 hR26 => ?_
   try simp (maxSteps := 1000000) [bookV, hzw1, List.take_succ_cons, List.take_zero, List.drop_succ_cons, List.drop_zero]
   repeat' (first | apply And.intro | intro _)
   any_goals (first | (refine hR26 _ ?_; clear hR26) | omega | (simp_all <;> omega))
   refine runs_cut 1 fun R27 hR27 => ?_
   try simp (maxSteps := 1000000) [bookV, hzw1, List.take_succ_cons, List.take_zero, List.drop_succ_cons, List.drop_zero]
   refine .inl ⟨_, get_ok b (zP b at_) (zZ b at_ : Nat) hm hp hq, ?_⟩
   try simp (maxSteps := 1000000) [bookV, hzw1]
   repeat' (first | apply And.intro | intro _)
   any_goals (first | (refine hR27 _ ?_; clear hR27) | omega | (simp_all <;> omega))
   try simp (maxSteps := 1000000) [bookV, hzw1, List.take_succ_cons, List.take_zero, List.drop_succ_cons, List.drop_zero]
   repeat' (first | apply And.intro | intro _)
   any_goals (first | (refine hK25 _ ?_; clear hK25) | omega | (simp_all <;> omega))
   refine swp_seq fun K28 hK28 => ?_
   refine swp_seq fun K29 hK29 => ?_
   refine swp_region ty_ok ?_
   try simp (maxSteps := 1000000) [bookV]
   repeat' (first | apply And.intro | intro _)
   any_goals (first | (refine hK29 _ ?_; clear hK29) | omega | (simp_all <;> omega))
   refine swp_if fun C30 hC30 => ?_
   try simp (maxSteps := 1000000) [bookV]
   refine hC30 _ (fun hc30 => ?_) (fun hc30 => ?_)
   ·clear hC30
    try simp at hc30
    refine swp_seq fun K31 hK31 => ?_
    refine swp_region ty_ok ?_
    try simp (maxSteps := 1000000) [bookV]
    repeat' (first | apply And.intro | intro _)
    any_goals (first | (refine hK31 _ ?_; clear hK31) | omega | (simp_all <;> omega))
    refine swp_ret ?_
    simp [fnPost, Try.results55, resP, tupOf]
    exact fd_err (fd_h hzE hc30) hc30
   ·clear hC30
    try simp at hc30
    refine swp_skip ?_
    try simp only [thn, inBlk]
    refine hK28 _ ?_; clear hK28
    refine swp_seq fun K32 hK32 => ?_
    have hhE := hc30
    have hq2 : -9223372036854775808 ≤ hP b at_ ∧ hP b at_ ≤ 9223372036854775807 := (by have := getP_bd (b := b) (p := zP b at_) (size := (zZ b at_ : Nat)) hm; unfold hP; omega)
    refine swp_region ty_ok ?_
    refine runs_cut 4 fun R33 hR33 => ?_
    try simp (maxSteps := 1000000) [bookV, List.take_succ_cons, List.take_zero, List.drop_succ_cons, List.drop_zero]
    repeat' (first | apply And.intro | intro _)
    any_goals (first | (refine hR33 _ ?_; clear hR33) | omega | (simp_all <;> omega))
    refine runs_cut 1 fun R34 hR34 => ?_
    try simp (maxSteps := 1000000) [bookV, List.take_succ_cons, List.take_zero, List.drop_succ_cons, List.drop_zero]
    refine .inl ⟨_, get_ok b (hP b at_) (bPlain i : Nat) hm hp hq2, ?_⟩
    try simp (maxSteps := 1000000) [bookV]
    repeat' (first | apply And.intro | intro _)
    any_goals (first | (refine hR34 _ ?_; clear hR34) | omega | (simp_all <;> omega))
    try simp (maxSteps := 1000000) [bookV, List.take_succ_cons, List.take_zero, List.drop_succ_cons, List.drop_zero]
    repeat' (first | apply And.intro | intro _)
    any_goals (first | (refine hK32 _ ?_; clear hK32) | omega | (simp_all <;> omega))
    refine swp_seq fun K35 hK35 => ?_
    refine swp_seq fun K36 hK36 => ?_
    refine swp_region ty_ok ?_
    try simp (maxSteps := 1000000) [bookV]
    repeat' (first | apply And.intro | intro _)
    any_goals (first | (refine hK36 _ ?_; clear hK36) | omega | (simp_all <;> omega))
    refine swp_if fun C37 hC37 => ?_
    try simp (maxSteps := 1000000) [bookV]
    refine hC37 _ (fun hc37 => ?_) (fun hc37 => ?_)
    ·clear hC37
     try simp at hc37
     refine swp_seq fun K38 hK38 => ?_
     refine swp_region ty_ok ?_
     try simp (maxSteps := 1000000) [bookV]
     repeat' (first | apply And.intro | intro _)
     any_goals (first | (refine hK38 _ ?_; clear hK38) | omega | (simp_all <;> omega))
     refine swp_ret ?_
     simp [fnPost, Try.results55, resP, tupOf]
     exact fd_err (fd_l hzE hhE hc37) hc37
    ·clear hC37
     try simp at hc37
     refine swp_skip ?_
     try simp only [thn, inBlk]
     refine hK35 _ ?_; clear hK35
     refine swp_seq fun K39 hK39 => ?_
     have hlE := hc37
     have hF := rkF (p := bPlain i) hp hplain hzE
     have f1 := hF.s
     have f2 := hF.a
     have f3 := hF.o
     have f4 := hF.t
     have f5 := hF.u
     have f6 := hF.l
     have f7 := hF.r
     refine swp_draw ty_ok mixed (ms := [0, 1, 3, 0, 15, 31, 0, 64, 255, 0, 1023, 2047]) (by kernel_rfl) ?_
     try simp (maxSteps := 1000000) [bookV, hzw1, f1, f2, f3, f4, f5, f6]
     repeat' (first | apply And.intro | intro _)
     any_goals (first | kernel_rfl | (refine hK39 _ ?_; clear hK39) | omega | (simp_all <;> omega))
     refine swp_seq fun K41 hK41 => ?_
     refine swp_seq fun K42 hK42 => ?_
     refine swp_region ty_ok ?_
     try simp (maxSteps := 1000000) [bookV]
     repeat' (first | apply And.intro | intro _)
     any_goals (first | (refine hK42 _ ?_; clear hK42) | omega | (simp_all <;> omega))
     refine swp_if fun C43 hC43 => ?_
     try simp (maxSteps := 1000000) [bookV]
     refine hC43 _ (fun hc43 => ?_) (fun hc43 => ?_)
     ·clear hC43
      try simp at hc43
      refine swp_seq fun K44 hK44 => ?_
      refine swp_region ty_ok ?_
      try simp (maxSteps := 1000000) [bookV]
      repeat' (first | apply And.intro | intro _)
      any_goals (first | (refine hK44 _ ?_; clear hK44) | omega | (simp_all <;> omega))
      refine swp_ret ?_
      simp [fnPost, Try.results55, resP, tupOf]
      exact fd_err (fd_r (N := (bE i).length) (p := bPlain i) hzE hhE hlE (by have h := hc43; omega)) (by omega)
     ·clear hC43
      try simp at hc43
      refine swp_skip ?_
      try simp only [thn, inBlk]
      refine hK41 _ ?_; clear hK41
      refine swp_seq fun K45 hK45 => ?_
      refine swp_region ty_ok ?_
      try simp (maxSteps := 1000000) [bookV]
      repeat' (first | apply And.intro | intro _)
      any_goals (first | (refine hK45 _ ?_; clear hK45) | omega | (simp_all <;> omega))
      refine swp_ret ?_
      simp [fnPost, Try.results55, resP, tupOf]
      exact fd_ok (p := bPlain i) (es := bE i) hzE hhE hlE (by have h := hc43; omega)

end Go.Proofs.Ytgheplondkoedaa

