import Derived.Test.YtgheplondkoedaaWf
import Derived.Test.YtgheplondkoedaaTyh
import Derived.Test.YtgheplondkoedaaBkq
import Derived.Test.YtgheplondkoedaaHsrt
import Derived.Test.YtgheplondkoedaaHbk
import Derived.Test.YtgheplondkoedaaHbk2
import Derived.Test.YtgheplondkoedaaHbk3
import Derived.Test.YtgheplondkoedaaHbits
import Derived.Test.YtgheplondkoedaaHrd
import Derived.Test.YtgheplondkoedaaHrdq
import Derived.Test.YtgheplondkoedaaHbits2
import Derived.Test.YtgheplondkoedaaHbk4
import Derived.Test.YtgheplondkoedaaHbk5
import Derived.Test.YtgheplondkoedaaHbk6
import Derived.Test.YtgheplondkoedaaHbk8
namespace Go.Proofs.Ytgheplondkoedaa
set_option linter.unusedVariables false
set_option linter.unusedSimpArgs false
set_option maxRecDepth 10000
open Go Go.Pv

open Go.RowKit
theorem bits_one {z h : Nat} (hh : h < 2 ^ z) : bitsOf (2 ^ z + h) (z + 1) = 1 :: bitsOf h z := by
 have hp : 0 < 2 ^ z := Nat.pow_pos (by omega)
 have := bitsOf_add (2 ^ z + h) 1 z
 rw [Nat.add_comm 1 z] at this
 rw [this]
 have e1 : (2 ^ z + h) / 2 ^ z = 1 := by rw [Nat.add_div_left _ hp, Nat.div_eq_of_lt hh]
 have e2 : (2 ^ z + h) % 2 ^ z = h := by rw [Nat.add_mod_left, Nat.mod_eq_of_lt hh]
 rw [e1, e2]
 rfl
/-- A code, spelled out. -/
theorem codeL_form {p r z h l : Nat} (hp : p ≤ 2) (hr : r < 289) (hh : h < 2 ^ z) (hl : l < 2 ^ p) (he : r = (2 ^ z + h - 1) * 2 ^ p + l) : cM p r = z + 1 ∧ codeL p r = List.replicate z 0 ++ (1 :: bitsOf h z) ++ bitsOf l p := by
 have hz : 0 < 2 ^ z := Nat.pow_pos (by omega)
 have hq : 0 < 2 ^ p := Nat.pow_pos (by omega)
 have e1 : r / 2 ^ p = 2 ^ z + h - 1 := by rw [he, Nat.mul_comm, Nat.mul_add_div hq, Nat.div_eq_of_lt hl, Nat.add_zero]
 have e2 : r % 2 ^ p = l := by rw [he, Nat.mul_comm, Nat.mul_add_mod, Nat.mod_eq_of_lt hl]
 have e3 : cN p r = 2 ^ z + h := by unfold cN; rw [e1]; omega
 have f := codeF hp hr
 have fn := f.n
 have fm := f.m
 rw [e3] at fn
 have a1 : 2 ^ (cM p r - 1) < 2 ^ (z + 1) := by rw [Nat.pow_succ]; omega
 have a2 := (Nat.pow_lt_pow_iff_right (by omega : 1 < 2)).1 a1
 have a3 : 2 ^ z < 2 ^ cM p r := by omega
 have a4 := (Nat.pow_lt_pow_iff_right (by omega : 1 < 2)).1 a3
 have e4 : cM p r = z + 1 := by omega
 refine ⟨e4, ?_⟩
 unfold codeL
 rw [e4, e3, e2, bits_one hh, Nat.add_sub_cancel]
theorem rN_z (b : List Int) (q z : Int) : rN b (q, 0) z = getN b q z := by
 show (if (0 : Int) = 0 then getN b q z else 0) = _
 rw [if_pos rfl]
theorem zr_got {b : List Int} (hb : ∀ y ∈ b, 0 ≤ y) : ∀ (f z : Nat) (q : Int) (z' : Nat) (q' : Int), zr b f z q = (z', q', 0) → z ≤ z' ∧ Rds b (q, 0) (q', 0) (List.replicate (z' - z) 0 ++ [1])
 | 0, z, q, z', q', h => by
  rw [zr_end] at h
  exact absurd (congrArg (fun t => t.2.2) h) (by simp)
 | f + 1, z, q, z', q', h => by
  rw [zr] at h
  split at h
  ·rename_i h1
   have ho := Rds.one hb (q, 0) (z := 1) (by omega)
   have hs : rS b (q, 0) 1 = (getP b q 1, 0) := by
    show (if (0 : Int) = 0 then getP b q 1 else q, if (0 : Int) = 0 then getE b q 1 else 0) = _
    rw [if_pos rfl, if_pos rfl, h1]
   have hn : rN b (q, 0) 1 = getN b q 1 := rN_z b q 1
   rw [hs, hn] at ho
   split at h
   ·rename_i h2
    rw [h2] at ho
    obtain ⟨a, c⟩ := zr_got hb f _ _ _ _ h
    refine ⟨by omega, ?_⟩
    have := ho.app c
    have e : bitsOf (0 : Int).toNat (1 : Int).toNat ++ (List.replicate (z' - (z + 1)) 0 ++ [1]) = List.replicate (z' - z) 0 ++ [1] := by
     rw [show z' - z = (z' - (z + 1)) + 1 by omega, List.replicate_succ]
     rfl
    rwa [e] at this
   ·rename_i h2
    have hz : z = z' := congrArg (fun t => t.1) h
    have hq : getP b q 1 = q' := congrArg (fun t => t.2.1) h
    subst hz hq
    have h3 : getN b q 1 = 1 := by
     have hbd := getN_bd (b := b) (p := q) (s := 1) hb
     have e1 : ((1 : Nat) : Int) = 1 := rfl
     have e2 : ((2 ^ 1 : Nat) : Int) = 2 := rfl
     rw [e1, e2] at hbd
     omega
    rw [h3] at ho
    refine ⟨Nat.le_refl _, ?_⟩
    rw [Nat.sub_self]
    exact ho
  ·rename_i h1
   exact absurd (congrArg (fun t => t.2.2) h) h1
theorem fd_zero {p : Nat} {es b : List Int} {at_ : Int} (h : fdE p es.length b at_ = 0) : zE b at_ = 0 ∧ hE b at_ = 0 ∧ lE p b at_ = 0 ∧ rkR p b at_ < es.length := by
 unfold fdE at h
 split at h
 ·split at h
  ·split at h
   ·split at h
    ·exact ⟨by assumption, by assumption, by assumption, by assumption⟩
    ·cases h
   ·rename_i hh; exact absurd h hh
  ·rename_i hh; exact absurd h hh
 ·rename_i hh; exact absurd h hh
/-- What is read has just these bits as its code. -/
theorem read_code {p : Nat} {es b : List Int} {at_ : Int} (hp : p ≤ 2) (hb : ∀ k : Nat, 0 ≤ b[k]?.getD 0 ∧ b[k]?.getD 0 ≤ 255) (hl : es.length ≤ 289) (h : fdE p es.length b at_ = 0) :
  ∃ r : Nat, r < es.length ∧ fdN p es b at_ = es[r]?.getD 0 ∧ 0 ≤ at_ ∧ fdP p es b at_ = at_ + ((codeL p r).length : Nat) ∧ at_ + ((codeL p r).length : Nat) ≤ b.length ∧ (b.drop at_.toNat).take (codeL p r).length = codeL p r := by
 obtain ⟨h1, h2, h3, h4⟩ := fd_zero h
 have hn := nn hb
 have hF := rkF hb hp h1
 have hhb := getN_bd (b := b) (p := zP b at_) (s := zZ b at_) hn
 have hlb := getN_bd (b := b) (p := hP b at_) (s := p) hn
 obtain ⟨_, z1⟩ := zr_got hn 10 0 at_ (zZ b at_) (zP b at_) (by rw [← h1]; rfl)
 have o1 := Rds.one hn (zP b at_, 0) (z := (zZ b at_ : Nat)) (by have := hF.z; omega)
 have s1 : rS b (zP b at_, 0) (zZ b at_ : Nat) = (hP b at_, 0) := by
  show (if (0 : Int) = 0 then getP b (zP b at_) (zZ b at_ : Nat) else _, if (0 : Int) = 0 then getE b (zP b at_) (zZ b at_ : Nat) else 0) = _
  rw [if_pos rfl, if_pos rfl]
  exact congrArg (Prod.mk (hP b at_)) h2
 have n1 : rN b (zP b at_, 0) (zZ b at_ : Nat) = hN b at_ := rN_z _ _ _
 rw [s1, n1] at o1
 have o2 := Rds.one hn (hP b at_, 0) (z := (p : Nat)) (by omega)
 have s2 : rS b (hP b at_, 0) (p : Nat) = (lP p b at_, 0) := by
  show (if (0 : Int) = 0 then getP b (hP b at_) (p : Nat) else _, if (0 : Int) = 0 then getE b (hP b at_) (p : Nat) else 0) = _
  rw [if_pos rfl, if_pos rfl]
  exact congrArg (Prod.mk (lP p b at_)) h3
 have n2 : rN b (hP b at_, 0) (p : Nat) = lN p b at_ := rN_z _ _ _
 rw [s2, n2] at o2
 obtain ⟨hh, ehh⟩ := Int.eq_ofNat_of_zero_le (show 0 ≤ hN b at_ from hhb.1)
 obtain ⟨ll, ell⟩ := Int.eq_ofNat_of_zero_le (show 0 ≤ lN p b at_ from hlb.1)
 have c1 : hh < 2 ^ zZ b at_ := by have := hhb.2; unfold hN at ehh; omega
 have c2 : ll < 2 ^ p := by have := hlb.2; unfold lN at ell; omega
 obtain ⟨r, er⟩ := Int.eq_ofNat_of_zero_le hF.r
 have hz2 : 0 < 2 ^ zZ b at_ := Nat.pow_pos (by omega)
 have hrk : r = (2 ^ zZ b at_ + hh - 1) * 2 ^ p + ll := by
  have e := er
  unfold rkR at e
  rw [ehh, ell] at e
  have : (2 : Int) ^ zZ b at_ + (hh : Int) - 1 = ((2 ^ zZ b at_ + hh - 1 : Nat) : Int) := by
   have : (2 : Int) ^ zZ b at_ = ((2 ^ zZ b at_ : Nat) : Int) := by push_cast; rfl
   omega
  rw [this] at e
  have e2 : (((2 ^ zZ b at_ + hh - 1) * 2 ^ p + ll : Nat) : Int) = (r : Int) := by rw [← e]; push_cast; rfl
  omega
 have hrl : r < es.length := by omega
 obtain ⟨_, hform⟩ := codeL_form hp (by omega) c1 c2 hrk
 have tot := (z1.app (o1.app o2))
 rw [ehh, ell, Nat.sub_zero] at tot
 have eq : List.replicate (zZ b at_) 0 ++ [1] ++ (bitsOf (hh : Int).toNat (zZ b at_ : Int).toNat ++ bitsOf (ll : Int).toNat (p : Int).toNat) = codeL p r := by
  rw [hform]
  simp
 rw [eq] at tot
 obtain ⟨t1, t2, t3, t4⟩ := tot rfl
 have t5 := t4 (by rw [codeL_len]; have := (codeF (p := p) (r := r) hp (by omega)).m; omega)
 obtain ⟨f1, f2, _⟩ := fd_ok (p := p) (es := es) h1 h2 h3 h4
 exact ⟨r, hrl, by rw [f1, er, Int.toNat_natCast], t5.1, by rw [f2]; exact t2, t5.2, t3⟩

end Go.Proofs.Ytgheplondkoedaa

