import Derived.Test.YtjkpbhjppjamnaaWb
import Derived.Test.YtjkpbhjppjamnaaTyb
import Derived.Test.YtjkpbhjppjamnaaBkq
import Derived.Test.YtjkpbhjppjamnaaBsrt
import Derived.Test.YtjkpbhjppjamnaaBbk
import Derived.Test.YtjkpbhjppjamnaaBbk2
import Derived.Test.YtjkpbhjppjamnaaBbk3
import Derived.Test.YtjkpbhjppjamnaaBbits
import Derived.Test.YtjkpbhjppjamnaaBrd
import Derived.Test.YtjkpbhjppjamnaaBrdq
import Derived.Test.YtjkpbhjppjamnaaBbits2
import Derived.Test.YtjkpbhjppjamnaaBbk4
import Derived.Test.YtjkpbhjppjamnaaBbk5
import Derived.Test.YtjkpbhjppjamnaaBbk6
import Derived.Test.YtjkpbhjppjamnaaBbk7
import Derived.Test.YtjkpbhjppjamnaaBbk8
namespace Go.Proofs.Ytjkpbhjppjamnaa
set_option linter.unusedVariables false
set_option linter.unusedSimpArgs false
set_option maxRecDepth 10000
open Go Go.Pv

open Go.RowKit
theorem at255b {b : List Int} (h : ∀ x ∈ b, 0 ≤ x ∧ x ≤ 255) (k : Nat) : 0 ≤ b[k]?.getD 0 ∧ b[k]?.getD 0 ≤ 255 := by
  cases hk : b[k]? with
  | none => exact ⟨by decide, by decide⟩
  | some v => exact h v (List.mem_of_getElem? hk)
theorem codeL_bits (p r : Nat) : ∀ x ∈ codeL p r, x = 0 ∨ x = 1 := fun x hx => by
  unfold codeL at hx
  rw [List.mem_append, List.mem_append] at hx
  rcases hx with (hx | hx) | hx
  · exact .inl (List.eq_of_mem_replicate hx)
  · exact bitsOf_bit _ _ x hx
  · exact bitsOf_bit _ _ x hx
theorem bits_one {z h : Nat} (hh : h < 2 ^ z) : bitsOf (2 ^ z + h) (z + 1) = 1 :: bitsOf h z := by
  have hp : 0 < 2 ^ z := Nat.pow_pos (by omega)
  have := bitsOf_add (2 ^ z + h) 1 z
  rw [Nat.add_comm 1 z] at this
  rw [this]
  have e1 : (2 ^ z + h) / 2 ^ z = 1 := by rw [Nat.add_div_left _ hp, Nat.div_eq_of_lt hh]
  have e2 : (2 ^ z + h) % 2 ^ z = h := by rw [Nat.add_mod_left, Nat.mod_eq_of_lt hh]
  rw [e1, e2]
  rfl
/-- A code, spelled out. -/
theorem codeL_form {p r z h l : Nat} (hp : p ≤ 2) (hr : r < 289) (hh : h < 2 ^ z) (hl : l < 2 ^ p) (he : r = (2 ^ z + h - 1) * 2 ^ p + l) : cM p r = z + 1 ∧ codeL p r = List.replicate z 0 ++ (1 :: bitsOf h z) ++ bitsOf l p := by
  have hz : 0 < 2 ^ z := Nat.pow_pos (by omega)
  have hq : 0 < 2 ^ p := Nat.pow_pos (by omega)
  have e1 : r / 2 ^ p = 2 ^ z + h - 1 := by rw [he, Nat.mul_comm, Nat.mul_add_div hq, Nat.div_eq_of_lt hl, Nat.add_zero]
  have e2 : r % 2 ^ p = l := by rw [he, Nat.mul_comm, Nat.mul_add_mod, Nat.mod_eq_of_lt hl]
  have e3 : cN p r = 2 ^ z + h := by unfold cN; rw [e1]; omega
  have f := codeF hp hr
  have fn := f.n
  have fm := f.m
  rw [e3] at fn
  have a1 : 2 ^ (cM p r - 1) < 2 ^ (z + 1) := by rw [Nat.pow_succ]; omega
  have a2 := (Nat.pow_lt_pow_iff_right (by omega : 1 < 2)).1 a1
  have a3 : 2 ^ z < 2 ^ cM p r := by omega
  have a4 := (Nat.pow_lt_pow_iff_right (by omega : 1 < 2)).1 a3
  have e4 : cM p r = z + 1 := by omega
  refine ⟨e4, ?_⟩
  unfold codeL
  rw [e4, e3, e2, bits_one hh, Nat.add_sub_cancel]
theorem codeL_split {p r : Nat} (hp : p ≤ 2) (hr : r < 289) : ∃ z h l, h < 2 ^ z ∧ l < 2 ^ p ∧ z ≤ 8 ∧ r = (2 ^ z + h - 1) * 2 ^ p + l := by
  have f := codeF hp hr
  have fn := f.n
  have fm := f.m
  have hq : 0 < 2 ^ p := Nat.pow_pos (by omega)
  obtain ⟨m, hm⟩ : ∃ m, cM p r = m + 1 := ⟨cM p r - 1, by omega⟩
  rw [hm, Nat.add_sub_cancel, Nat.pow_succ] at fn
  refine ⟨m, cN p r - 2 ^ m, r % 2 ^ p, by omega, Nat.mod_lt _ hq, by omega, ?_⟩
  have : 2 ^ m + (cN p r - 2 ^ m) - 1 = r / 2 ^ p := by unfold cN at *; omega
  rw [this, Nat.mul_comm]
  exact (Nat.div_add_mod r (2 ^ p)).symm
theorem bit_read {xs ys : List Int} {x la : Nat} (hl : xs.length = la) (hx : x < 2) : getE (xs ++ (x : Int) :: ys) (la : Nat) 1 = 0 ∧ getN (xs ++ (x : Int) :: ys) (la : Nat) 1 = x ∧ getP (xs ++ (x : Int) :: ys) (la : Nat) 1 = ((la + 1 : Nat) : Int) := by
  obtain ⟨g1, g2, g3⟩ := back_get xs ys x 1 la hl (by omega) (by omega)
  have e : bitsOf x 1 = [(x : Int)] := by
    have : x = 0 ∨ x = 1 := by omega
    rcases this with rfl | rfl <;> rfl
  rw [e, List.append_assoc] at g1 g2 g3
  exact ⟨g3, g1, g2⟩
theorem zr_code {z : Nat} {t : List Int} (hz : z ≤ 8) : ∀ k ≤ z, zr (List.replicate z 0 ++ 1 :: t) 10 0 0 = zr (List.replicate z 0 ++ 1 :: t) (10 - k) k (k : Nat)
  | 0, _ => rfl
  | k + 1, hk => by
    rw [zr_code hz k (by omega)]
    have e : List.replicate z (0 : Int) ++ 1 :: t = List.replicate k 0 ++ ((0 : Nat) : Int) :: (List.replicate (z - k - 1) 0 ++ 1 :: t) := by
      have : List.replicate z (0 : Int) = List.replicate k 0 ++ (0 :: List.replicate (z - k - 1) 0) := by
        rw [← List.replicate_succ, List.replicate_append_replicate]
        congr 1
        omega
      rw [this, List.append_assoc]
      rfl
    obtain ⟨g1, g2, g3⟩ := bit_read (xs := List.replicate k 0) (ys := List.replicate (z - k - 1) 0 ++ 1 :: t) (x := 0) (la := k) (by simp) (by omega)
    rw [← e] at g1 g2 g3
    rw [zr_next (by omega) g1 g2, g3, show 10 - k - 1 = 10 - (k + 1) by omega]
theorem zr_code_one {z : Nat} {t : List Int} (hz : z ≤ 8) : zr (List.replicate z 0 ++ 1 :: t) 10 0 0 = (z, ((z + 1 : Nat) : Int), 0) := by
  rw [zr_code hz z (Nat.le_refl _)]
  obtain ⟨g1, g2, g3⟩ := bit_read (xs := List.replicate z 0) (ys := t) (x := 1) (la := z) (by simp) (by omega)
  have e1 : ((1 : Nat) : Int) = 1 := rfl
  rw [e1] at g1 g2 g3
  rw [zr_one (by omega) g1 (by rw [g2]; decide), g3]
/-- What is read from a code on is its rank, whatever stands behind. -/
theorem code_read {p r : Nat} {es be : List Int} (hp : p ≤ 2) (hr : r < 289) (hl : r < es.length) : fdE p es.length (codeL p r ++ be) 0 = 0 ∧ fdN p es (codeL p r ++ be) 0 = es[r]?.getD 0 ∧ fdP p es (codeL p r ++ be) 0 = ((codeL p r).length : Nat) := by
  obtain ⟨z, h, l, hh, hll, hz, he⟩ := codeL_split hp hr
  obtain ⟨hc, hf⟩ := codeL_form hp hr hh hll he
  have hlen := codeL_len p r
  rw [hc] at hlen
  have b0 : codeL p r ++ be = List.replicate z 0 ++ 1 :: (bitsOf h z ++ bitsOf l p ++ be) := by rw [hf]; simp
  have hzr := zr_code_one (t := bitsOf h z ++ bitsOf l p ++ be) hz
  rw [← b0] at hzr
  obtain ⟨k1, k2, k3⟩ := zr_fin hzr
  have b1 : codeL p r ++ be = (List.replicate z 0 ++ [1]) ++ bitsOf h z ++ (bitsOf l p ++ be) := by rw [b0]; simp
  obtain ⟨g1, g2, g3⟩ := back_get (List.replicate z 0 ++ [1]) (bitsOf l p ++ be) h z (z + 1) (by simp) (by omega) hh
  rw [← b1] at g1 g2 g3
  have b2 : codeL p r ++ be = (List.replicate z 0 ++ [1] ++ bitsOf h z) ++ bitsOf l p ++ be := by rw [b0]; simp
  obtain ⟨q1, q2, q3⟩ := back_get (List.replicate z 0 ++ [1] ++ bitsOf h z) be l p (2 * z + 1) (by simp [bitsOf_len]; omega) (by omega) hll
  rw [← b2] at q1 q2 q3
  have m1 : hN (codeL p r ++ be) 0 = h := by unfold hN; rw [k2, k3]; exact g1
  have m2 : hP (codeL p r ++ be) 0 = ((2 * z + 1 : Nat) : Int) := by unfold hP; rw [k2, k3, g2]; push_cast; omega
  have m3 : hE (codeL p r ++ be) 0 = 0 := by unfold hE; rw [k2, k3]; exact g3
  have n1 : lN p (codeL p r ++ be) 0 = l := by unfold lN; rw [m2]; exact q1
  have n2 : lP p (codeL p r ++ be) 0 = ((codeL p r).length : Nat) := by unfold lP; rw [m2, q2, hlen]; push_cast; omega
  have n3 : lE p (codeL p r ++ be) 0 = 0 := by unfold lE; rw [m2]; exact q3
  have hz2 : 0 < 2 ^ z := Nat.pow_pos (by omega)
  have rk : rkR p (codeL p r ++ be) 0 = (r : Nat) := by
    unfold rkR
    rw [k3, m1, n1]
    have : (2 : Int) ^ z + (h : Int) - 1 = ((2 ^ z + h - 1 : Nat) : Int) := by
      have : (2 : Int) ^ z = ((2 ^ z : Nat) : Int) := by push_cast; rfl
      omega
    rw [this, he]
    push_cast
    rfl
  obtain ⟨o1, o2, o3⟩ := fd_ok (p := p) (es := es) k1 m3 n3 (by rw [rk]; omega)
  exact ⟨o3, by rw [o1, rk, Int.toNat_natCast], by rw [o2, n2]⟩
theorem rN_z (b : List Int) (q z : Int) : rN b (q, 0) z = getN b q z := by
  show (if (0 : Int) = 0 then getN b q z else 0) = _
  rw [if_pos rfl]
theorem zr_got {b : List Int} (hb : ∀ y ∈ b, 0 ≤ y) : ∀ (f z : Nat) (q : Int) (z' : Nat) (q' : Int), zr b f z q = (z', q', 0) → z ≤ z' ∧ Rds b (q, 0) (q', 0) (List.replicate (z' - z) 0 ++ [1])
  | 0, z, q, z', q', h => by
    rw [zr_end] at h
    exact absurd (congrArg (fun t => t.2.2) h) (by simp)
  | f + 1, z, q, z', q', h => by
    rw [zr] at h
    split at h
    · rename_i h1
      have ho := Rds.one hb (q, 0) (z := 1) (by omega)
      have hs : rS b (q, 0) 1 = (getP b q 1, 0) := by
        show (if (0 : Int) = 0 then getP b q 1 else q, if (0 : Int) = 0 then getE b q 1 else 0) = _
        rw [if_pos rfl, if_pos rfl, h1]
      have hn : rN b (q, 0) 1 = getN b q 1 := rN_z b q 1
      rw [hs, hn] at ho
      split at h
      · rename_i h2
        rw [h2] at ho
        obtain ⟨a, c⟩ := zr_got hb f _ _ _ _ h
        refine ⟨by omega, ?_⟩
        have := ho.app c
        have e : bitsOf (0 : Int).toNat (1 : Int).toNat ++ (List.replicate (z' - (z + 1)) 0 ++ [1]) = List.replicate (z' - z) 0 ++ [1] := by
          rw [show z' - z = (z' - (z + 1)) + 1 by omega, List.replicate_succ]
          rfl
        rwa [e] at this
      · rename_i h2
        have hz : z = z' := congrArg (fun t => t.1) h
        have hq : getP b q 1 = q' := congrArg (fun t => t.2.1) h
        subst hz hq
        have h3 : getN b q 1 = 1 := by
          have hbd := getN_bd (b := b) (p := q) (s := 1) hb
          have e1 : ((1 : Nat) : Int) = 1 := rfl
          have e2 : ((2 ^ 1 : Nat) : Int) = 2 := rfl
          rw [e1, e2] at hbd
          omega
        rw [h3] at ho
        refine ⟨Nat.le_refl _, ?_⟩
        rw [Nat.sub_self]
        exact ho
    · rename_i h1
      exact absurd (congrArg (fun t => t.2.2) h) h1
theorem fd_zero {p : Nat} {es b : List Int} {at_ : Int} (h : fdE p es.length b at_ = 0) : zE b at_ = 0 ∧ hE b at_ = 0 ∧ lE p b at_ = 0 ∧ rkR p b at_ < es.length := by
  unfold fdE at h
  split at h
  · split at h
    · split at h
      · split at h
        · exact ⟨by assumption, by assumption, by assumption, by assumption⟩
        · cases h
      · rename_i hh; exact absurd h hh
    · rename_i hh; exact absurd h hh
  · rename_i hh; exact absurd h hh
/-- What is read has just these bits as its code. -/
theorem read_code {p : Nat} {es b : List Int} {at_ : Int} (hp : p ≤ 2) (hb : ∀ k : Nat, 0 ≤ b[k]?.getD 0 ∧ b[k]?.getD 0 ≤ 255) (hl : es.length ≤ 289) (h : fdE p es.length b at_ = 0) :
    ∃ r : Nat, r < es.length ∧ fdN p es b at_ = es[r]?.getD 0 ∧ 0 ≤ at_ ∧ fdP p es b at_ = at_ + ((codeL p r).length : Nat) ∧ at_ + ((codeL p r).length : Nat) ≤ b.length ∧ (b.drop at_.toNat).take (codeL p r).length = codeL p r := by
  obtain ⟨h1, h2, h3, h4⟩ := fd_zero h
  have hn := nn hb
  have hF := rkF hb hp h1
  have hhb := getN_bd (b := b) (p := zP b at_) (s := zZ b at_) hn
  have hlb := getN_bd (b := b) (p := hP b at_) (s := p) hn
  obtain ⟨_, z1⟩ := zr_got hn 10 0 at_ (zZ b at_) (zP b at_) (by rw [← h1]; rfl)
  have o1 := Rds.one hn (zP b at_, 0) (z := (zZ b at_ : Nat)) (by have := hF.z; omega)
  have s1 : rS b (zP b at_, 0) (zZ b at_ : Nat) = (hP b at_, 0) := by
    show (if (0 : Int) = 0 then getP b (zP b at_) (zZ b at_ : Nat) else _, if (0 : Int) = 0 then getE b (zP b at_) (zZ b at_ : Nat) else 0) = _
    rw [if_pos rfl, if_pos rfl]
    exact congrArg (Prod.mk (hP b at_)) h2
  have n1 : rN b (zP b at_, 0) (zZ b at_ : Nat) = hN b at_ := rN_z _ _ _
  rw [s1, n1] at o1
  have o2 := Rds.one hn (hP b at_, 0) (z := (p : Nat)) (by omega)
  have s2 : rS b (hP b at_, 0) (p : Nat) = (lP p b at_, 0) := by
    show (if (0 : Int) = 0 then getP b (hP b at_) (p : Nat) else _, if (0 : Int) = 0 then getE b (hP b at_) (p : Nat) else 0) = _
    rw [if_pos rfl, if_pos rfl]
    exact congrArg (Prod.mk (lP p b at_)) h3
  have n2 : rN b (hP b at_, 0) (p : Nat) = lN p b at_ := rN_z _ _ _
  rw [s2, n2] at o2
  obtain ⟨hh, ehh⟩ := Int.eq_ofNat_of_zero_le (show 0 ≤ hN b at_ from hhb.1)
  obtain ⟨ll, ell⟩ := Int.eq_ofNat_of_zero_le (show 0 ≤ lN p b at_ from hlb.1)
  have c1 : hh < 2 ^ zZ b at_ := by have := hhb.2; unfold hN at ehh; omega
  have c2 : ll < 2 ^ p := by have := hlb.2; unfold lN at ell; omega
  obtain ⟨r, er⟩ := Int.eq_ofNat_of_zero_le hF.r
  have hz2 : 0 < 2 ^ zZ b at_ := Nat.pow_pos (by omega)
  have hrk : r = (2 ^ zZ b at_ + hh - 1) * 2 ^ p + ll := by
    have e := er
    unfold rkR at e
    rw [ehh, ell] at e
    have : (2 : Int) ^ zZ b at_ + (hh : Int) - 1 = ((2 ^ zZ b at_ + hh - 1 : Nat) : Int) := by
      have : (2 : Int) ^ zZ b at_ = ((2 ^ zZ b at_ : Nat) : Int) := by push_cast; rfl
      omega
    rw [this] at e
    have e2 : (((2 ^ zZ b at_ + hh - 1) * 2 ^ p + ll : Nat) : Int) = (r : Int) := by rw [← e]; push_cast; rfl
    omega
  have hrl : r < es.length := by omega
  obtain ⟨_, hform⟩ := codeL_form hp (by omega) c1 c2 hrk
  have tot := (z1.app (o1.app o2))
  rw [ehh, ell, Nat.sub_zero] at tot
  have eq : List.replicate (zZ b at_) 0 ++ [1] ++ (bitsOf (hh : Int).toNat (zZ b at_ : Int).toNat ++ bitsOf (ll : Int).toNat (p : Int).toNat) = codeL p r := by
    rw [hform]
    simp
  rw [eq] at tot
  obtain ⟨t1, t2, t3, t4⟩ := tot rfl
  have t5 := t4 (by rw [codeL_len]; have := (codeF (p := p) (r := r) hp (by omega)).m; omega)
  obtain ⟨f1, f2, _⟩ := fd_ok (p := p) (es := es) h1 h2 h3 h4
  exact ⟨r, hrl, by rw [f1, er, Int.toNat_natCast], t5.1, by rw [f2]; exact t2, t5.2, t3⟩

attribute [local simp] runs gd step1 need evu un opnds opv ev cst cst1 cstL getT getH putT onL nxt argT cellsOf PV.one thn inBlk jmp fldP ldP ldC live Cells.len Cells.get Cells.w sug ldv bin eqF eq1 ops2 sh2 binv Tk.agg stC apC rdS apS mvL zp argsP idx fillP toInts chunks mkC ixS ixA oidx slP sl0 slA optL List.append mxF bltn frzA frz frzL frz1 pur1 Cells.pur PV.scal scal1 runD rdO PV.ids id1 zids ety Eff.on cnd minb and1b ifmax ifmin mxv sugI strv w0 w1 w2 wm1
set_option maxHeartbeats 8000000 in
theorem prefix_w (x a : Nat) (be b : List Int) (at_ : Int) (hx : x ≤ 255) (ha : a ≤ 65535) (hbe : ∀ y ∈ be, 0 ≤ y ∧ y ≤ 255) (hb : ∀ k : Nat, 0 ≤ b[k]?.getD 0 ∧ b[k]?.getD 0 ≤ 255) (hat : -9223372036854775808 ≤ at_ ∧ at_ ≤ 9223372036854775807) : PCall Try.prog 9 [.int .u8 (x : Nat), .int .u16 (a : Nat), .ro (.ints .u8 be), .ro (.ints .u8 b), .int .i64 at_] (.bool true) := by
  obtain ⟨i, hi⟩ : ∃ i, x % 12 + 1 = i := ⟨_, rfl⟩
  have h1 : 1 ≤ i := (by omega)
  have h2 : i ≤ 12 := (by omega)
  have hxw : IntKind.i64.wrap (x : Int) = x := w64 (by omega)
  have hxa : IntKind.i64.wrap ((x : Int) % 12) = (x : Int) % 12 := w64 (by omega)
  have hxb : IntKind.i64.wrap ((x : Int) % 12 + 1) = (i : Nat) := by rw [w64 (by omega)]; omega
  have hxt : (x : Int).tmod 12 = (x : Int) % 12 := tmod_nat (a := x) (b := 12) rfl
  have hE := bke h1 h2
  have hB := bk_ok h1 h2
  have hmany := hB.many
  have hplain := hB.plain
  have hel := hE.elen
  have hrl := hE.rlen
  have hmz : ¬ bMany i = 0 := (by omega)
  have hvb : ∀ e, ∀ v ∈ bVal i e, -60 ≤ v ∧ v ≤ 60 := fun e v hv => by have := bDg_bd hB _ _ v hv; have := hB.low; have := hB.high; omega
  obtain ⟨m, hm0⟩ : ∃ m, a % bMany i = m := ⟨_, rfl⟩
  have hm : m < bMany i := by rw [← hm0]; exact Nat.mod_lt _ (by omega)
  have hma2 : IntKind.i64.wrap (a : Int) = (a : Nat) := w64 (by omega)
  have hma : (a : Int).tmod (bMany i : Nat) = (m : Nat) := tmod_nat hm0
  have hwm : IntKind.i64.wrap (m : Int) = (m : Nat) := w64 (by omega)
  have hvl : (bVal i m).length ≤ 4 := by unfold bVal; rw [bDg_len]; have := hB.dim; omega
  obtain ⟨ra, rb⟩ := hE.ra hm
  have hre := hE.re m hm
  obtain ⟨r, hr⟩ : ∃ r, (bRk i)[m]?.getD 0 = r := ⟨_, rfl⟩
  have hcode := code_ok i h1 h2 m hm
  rw [hr] at ra rb hre hcode
  obtain ⟨c1, c2, c3⟩ := code_read (es := bE i) (be := be) hplain (show r < 289 by omega) (by rw [hel]; exact rb)
  have hea := (hE.ea rb).1
  rw [hre] at hea
  rw [hea] at c2
  rw [hel] at c1
  have hcl := codeL_len (bPlain i) r
  have hcm := (codeF hplain (show r < 289 by omega)).m
  have hbits : ∀ k : Nat, 0 ≤ (codeL (bPlain i) r ++ be)[k]?.getD 0 ∧ (codeL (bPlain i) r ++ be)[k]?.getD 0 ≤ 255 := at255b fun x hx => by
    rcases List.mem_append.1 hx with h | h
    · have := codeL_bits _ _ x h; omega
    · exact hbe x h
  obtain ⟨C, hC⟩ : ∃ C, codeL (bPlain i) r = C := ⟨_, rfl⟩
  rw [hC] at hcode c1 c2 c3 hcl hbits
  refine pcall_body ty_ok Try.func9 rfl (by rfl) (by simp) ?_
  rw [Try.ntmps9]
  refine swp_seq fun K1 hK1 => ?_
  refine swp_region ty_ok ?_
  try simp (maxSteps := 1000000) [bookV]
  repeat' (first | apply And.intro | intro _)
  any_goals (first | (refine hK1 _ ?_; clear hK1) | (first | omega | (simp only [IntKind.wrap_i64] at *; omega) | (simp_all; done) | (simp_all; omega)))
  refine swp_seq fun K2 hK2 => ?_
  refine swp_region ty_ok ?_
  refine runs_cut 1 fun R3 hR3 => ?_
  try simp (maxSteps := 1000000) [bookV, List.take_succ_cons, List.take_zero, List.drop_succ_cons, List.drop_zero]
  refine .inl ⟨_, alive_ok, ?_⟩
  try simp (maxSteps := 1000000) [bookV]
  repeat' (first | apply And.intro | intro _)
  any_goals (first | (refine hR3 _ ?_; clear hR3) | (first | omega | (simp only [IntKind.wrap_i64] at *; omega) | (simp_all; done) | (simp_all; omega)))
  try simp (maxSteps := 1000000) [bookV, List.take_succ_cons, List.take_zero, List.drop_succ_cons, List.drop_zero]
  repeat' (first | apply And.intro | intro _)
  any_goals (first | (refine hK2 _ ?_; clear hK2) | (first | omega | (simp only [IntKind.wrap_i64] at *; omega) | (simp_all; done) | (simp_all; omega)))
  refine swp_seq fun K4 hK4 => ?_
  refine swp_seq fun K5 hK5 => ?_
  refine swp_region ty_ok ?_
  try simp (maxSteps := 1000000) [bookV]
  repeat' (first | apply And.intro | intro _)
  any_goals (first | (refine hK5 _ ?_; clear hK5) | (first | omega | (simp only [IntKind.wrap_i64] at *; omega) | (simp_all; done) | (simp_all; omega)))
  refine swp_if fun C6 hC6 => ?_
  try simp (maxSteps := 1000000) [bookV]
  refine hC6 _ (fun hc6 => ?_) (fun hc6 => ?_)
  · clear hC6
    try simp at hc6
    refine swp_seq fun K7 hK7 => ?_
    refine swp_region ty_ok ?_
    try simp (maxSteps := 1000000) [bookV]
    repeat' (first | apply And.intro | intro _)
    any_goals (first | (refine hK7 _ ?_; clear hK7) | (first | omega | (simp only [IntKind.wrap_i64] at *; omega) | (simp_all; done) | (simp_all; omega)))
    refine swp_ret ?_
    simp [fnPost, Try.results9, resP, tupOf]
  · clear hC6
    try simp at hc6
    refine swp_skip ?_
    try simp only [thn, inBlk]
    refine hK4 _ ?_; clear hK4
    refine swp_seq fun K8 hK8 => ?_
    refine swp_region ty_ok ?_
    refine runs_cut 4 fun R9 hR9 => ?_
    try simp (maxSteps := 1000000) [bookV, hxt, hxa, hxb, hxw, List.take_succ_cons, List.take_zero, List.drop_succ_cons, List.drop_zero]
    repeat' (first | apply And.intro | intro _)
    any_goals (first | (refine hR9 _ ?_; clear hR9) | (first | omega | (simp only [IntKind.wrap_i64] at *; omega) | (simp_all; done) | (simp_all; omega)))
    refine runs_cut 1 fun R10 hR10 => ?_
    try simp (maxSteps := 1000000) [bookV, hxt, hxa, hxb, hxw, List.take_succ_cons, List.take_zero, List.drop_succ_cons, List.drop_zero]
    refine .inl ⟨_, get_book i h1 h2, ?_⟩
    try simp (maxSteps := 1000000) [bookV, hxt, hxa, hxb, hxw]
    repeat' (first | apply And.intro | intro _)
    any_goals (first | (refine hR10 _ ?_; clear hR10) | (first | omega | (simp only [IntKind.wrap_i64] at *; omega) | (simp_all; done) | (simp_all; omega)))
    try simp (maxSteps := 1000000) [bookV, hxt, hxa, hxb, hxw, List.take_succ_cons, List.take_zero, List.drop_succ_cons, List.drop_zero]
    repeat' (first | apply And.intro | intro _)
    any_goals (first | (refine hK8 _ ?_; clear hK8) | (first | omega | (simp only [IntKind.wrap_i64] at *; omega) | (simp_all; done) | (simp_all; omega)))
    refine swp_seq fun K11 hK11 => ?_
    refine swp_seq fun K12 hK12 => ?_
    refine swp_region ty_ok ?_
    try simp (maxSteps := 1000000) [bookV]
    repeat' (first | apply And.intro | intro _)
    any_goals (first | (refine hK12 _ ?_; clear hK12) | (first | omega | (simp only [IntKind.wrap_i64] at *; omega) | (simp_all; done) | (simp_all; omega)))
    refine swp_if fun C13 hC13 => ?_
    try simp (maxSteps := 1000000) [bookV]
    refine hC13 _ (fun hc13 => ?_) (fun hc13 => ?_)
    · exact absurd hc13 (by simp)
    · clear hC13
      try simp at hc13
      refine swp_skip ?_
      try simp only [thn, inBlk]
      refine hK11 _ ?_; clear hK11
      refine swp_seq fun K14 hK14 => ?_
      refine swp_region ty_ok ?_
      try simp (maxSteps := 1000000) [bookV, hrl, hma, hma2, hmz, hwm]
      repeat' (first | apply And.intro | intro _)
      any_goals (first | (refine hK14 _ ?_; clear hK14) | (first | omega | (simp only [IntKind.wrap_i64] at *; omega) | (simp_all; done) | (simp_all; omega)))
      refine swp_seq fun K15 hK15 => ?_
      refine swp_region ty_ok ?_
      refine runs_cut 2 fun R16 hR16 => ?_
      try simp (maxSteps := 1000000) [bookV, List.take_succ_cons, List.take_zero, List.drop_succ_cons, List.drop_zero]
      repeat' (first | apply And.intro | intro _)
      any_goals (first | (refine hR16 _ ?_; clear hR16) | (first | omega | (simp only [IntKind.wrap_i64] at *; omega) | (simp_all; done) | (simp_all; omega)))
      refine runs_cut 1 fun R17 hR17 => ?_
      try simp (maxSteps := 1000000) [bookV, List.take_succ_cons, List.take_zero, List.drop_succ_cons, List.drop_zero]
      refine .inl ⟨_, hcode, ?_⟩
      try simp (maxSteps := 1000000) [bookV]
      repeat' (first | apply And.intro | intro _)
      any_goals (first | (refine hR17 _ ?_; clear hR17) | (first | omega | (simp only [IntKind.wrap_i64] at *; omega) | (simp_all; done) | (simp_all; omega)))
      try simp (maxSteps := 1000000) [bookV, List.take_succ_cons, List.take_zero, List.drop_succ_cons, List.drop_zero]
      repeat' (first | apply And.intro | intro _)
      any_goals (first | (refine hK15 _ ?_; clear hK15) | (first | omega | (simp only [IntKind.wrap_i64] at *; omega) | (simp_all; done) | (simp_all; omega)))
      refine swp_seq fun K18 hK18 => ?_
      refine swp_draw ty_ok mixed (ms := [0, 0, 0, 6, 0, 30, 63, 127, 255, 255, 255, 511, 3071, 8191]) (by kernel_rfl) ?_
      refine runD_cut 1 fun R19 hR19 => ?_
      try simp (maxSteps := 1000000) [bookV, List.take_succ_cons, List.take_zero, List.drop_succ_cons, List.drop_zero]
      repeat' (first | apply And.intro | intro _)
      any_goals (first | (refine hR19 _ _ _ _ ?_; clear hR19) | (first | omega | (simp only [IntKind.wrap_i64] at *; omega) | (simp_all; done) | (simp_all; omega)))
      refine runD_cut 1 fun R20 hR20 => ?_
      try simp (maxSteps := 1000000) [bookV, List.take_succ_cons, List.take_zero, List.drop_succ_cons, List.drop_zero]
      repeat' (first | apply And.intro | intro _)
      any_goals (first | (refine Or.inr (hR20 _ _ _ _ ?_); clear hR20) | (first | omega | (simp only [IntKind.wrap_i64] at *; omega) | (simp_all; done) | (simp_all; omega)))
      refine runD_cut 4 fun R21 hR21 => ?_
      try simp (maxSteps := 1000000) [bookV, List.take_succ_cons, List.take_zero, List.drop_succ_cons, List.drop_zero]
      repeat' (first | apply And.intro | intro _)
      any_goals (first | (refine hR21 _ _ _ _ ?_; clear hR21) | (first | omega | (simp only [IntKind.wrap_i64] at *; omega) | (simp_all; done) | (simp_all; omega)))
      refine runD_cut 1 fun R22 hR22 => ?_
      try simp (maxSteps := 1000000) [bookV, List.take_succ_cons, List.take_zero, List.drop_succ_cons, List.drop_zero]
      refine .inl ⟨_, (by have := read_ok i h1 h2 (C ++ be) 0 (by rw [List.length_append]; omega) hbits (by omega); rw [c1, c2, c3] at this; exact this), ?_⟩
      try simp (maxSteps := 1000000) [bookV]
      repeat' (first | apply And.intro | intro _)
      any_goals (first | (refine hR22 _ _ _ _ ?_; clear hR22) | (first | omega | (simp only [IntKind.wrap_i64] at *; omega) | (simp_all; done) | (simp_all; omega)))
      try simp (maxSteps := 1000000) [bookV, List.take_succ_cons, List.take_zero, List.drop_succ_cons, List.drop_zero]
      repeat' (first | apply And.intro | intro _)
      any_goals (first | kernel_rfl | (refine hK18 _ ?_; clear hK18) | (first | omega | (simp only [IntKind.wrap_i64] at *; omega) | (simp_all; done) | (simp_all; omega)))
      refine swp_seq fun K24 hK24 => ?_
      refine swp_seq fun K25 hK25 => ?_
      refine swp_region ty_ok ?_
      refine runs_cut 11 fun R26 hR26 => ?_
      try simp (maxSteps := 1000000) [bookV, List.take_succ_cons, List.take_zero, List.drop_succ_cons, List.drop_zero]
      repeat' (first | apply And.intro | intro _)
      any_goals (first | (refine hR26 _ ?_; clear hR26) | (first | omega | (simp only [IntKind.wrap_i64] at *; omega) | (simp_all; done) | (simp_all; omega)))
      try simp (maxSteps := 1000000) [bookV, List.take_succ_cons, List.take_zero, List.drop_succ_cons, List.drop_zero]
      repeat' (first | apply And.intro | intro _)
      any_goals (first | (refine hK25 _ ?_; clear hK25) | (first | omega | (simp only [IntKind.wrap_i64] at *; omega) | (simp_all; done) | (simp_all; omega)))
      refine swp_if fun C27 hC27 => ?_
      try simp (maxSteps := 1000000) [bookV]
      refine hC27 _ (fun hc27 => ?_) (fun hc27 => ?_)
      · exfalso
        have h := hc27
        simp at h
        omega
      · clear hC27
        try simp at hc27
        refine swp_skip ?_
        try simp only [thn, inBlk]
        refine hK24 _ ?_; clear hK24
        refine swp_seq fun K28 hK28 => ?_
        refine swp_region ty_ok ?_
        refine runs_cut 3 fun R29 hR29 => ?_
        try simp (maxSteps := 1000000) [bookV, List.take_succ_cons, List.take_zero, List.drop_succ_cons, List.drop_zero]
        repeat' (first | apply And.intro | intro _)
        any_goals (first | (refine hR29 _ ?_; clear hR29) | (first | omega | (simp only [IntKind.wrap_i64] at *; omega) | (simp_all; done) | (simp_all; omega)))
        refine runs_cut 1 fun R30 hR30 => ?_
        try simp (maxSteps := 1000000) [bookV, List.take_succ_cons, List.take_zero, List.drop_succ_cons, List.drop_zero]
        refine .inl ⟨_, read_ok i h1 h2 b at_ (by omega) hb hat, ?_⟩
        try simp (maxSteps := 1000000) [bookV]
        repeat' (first | apply And.intro | intro _)
        any_goals (first | (refine hR30 _ ?_; clear hR30) | (first | omega | (simp only [IntKind.wrap_i64] at *; omega) | (simp_all; done) | (simp_all; omega)))
        try simp (maxSteps := 1000000) [bookV, List.take_succ_cons, List.take_zero, List.drop_succ_cons, List.drop_zero]
        repeat' (first | apply And.intro | intro _)
        any_goals (first | (refine hK28 _ ?_; clear hK28) | (first | omega | (simp only [IntKind.wrap_i64] at *; omega) | (simp_all; done) | (simp_all; omega)))
        refine swp_seq fun K31 hK31 => ?_
        refine swp_seq fun K32 hK32 => ?_
        refine swp_region ty_ok ?_
        try simp (maxSteps := 1000000) [bookV]
        repeat' (first | apply And.intro | intro _)
        any_goals (first | (refine hK32 _ ?_; clear hK32) | (first | omega | (simp only [IntKind.wrap_i64] at *; omega) | (simp_all; done) | (simp_all; omega)))
        refine swp_if fun C33 hC33 => ?_
        try simp (maxSteps := 1000000) [bookV]
        refine hC33 _ (fun hc33 => ?_) (fun hc33 => ?_)
        · clear hC33
          try simp at hc33
          refine swp_seq fun K34 hK34 => ?_
          obtain ⟨z1, z2, _⟩ := fd_err (p := bPlain i) (es := bE i) (b := b) (at_ := at_) (e := fdE (bPlain i) (bMany i) b at_) (by rw [hel]) hc33
          refine swp_region ty_ok ?_
          try simp (maxSteps := 1000000) [bookV, z1, z2]
          repeat' (first | apply And.intro | intro _)
          any_goals (first | (refine hK34 _ ?_; clear hK34) | (first | omega | (simp only [IntKind.wrap_i64] at *; omega) | (simp_all; done) | (simp_all; omega)))
          refine swp_ret ?_
          simp [fnPost, Try.results9, resP, tupOf]
        · clear hC33
          try simp at hc33
          refine swp_skip ?_
          try simp only [thn, inBlk]
          refine hK31 _ ?_; clear hK31
          refine swp_seq fun K35 hK35 => ?_
          obtain ⟨s, s1, s2, s3, s4, s5, s6⟩ := read_code (p := bPlain i) (es := bE i) hplain hb (by omega) (by rw [hel]; have h := hc33; simpa using h)
          obtain ⟨sa, sb⟩ := hE.ea (r := s) (by omega)
          have ser := hE.er s (by omega)
          have hcd := code_ok i h1 h2 _ sb
          rw [ser] at hcd
          rw [sa] at s2
          obtain ⟨E, hEe⟩ : ∃ E, (bEnt i)[s]?.getD 0 = E := ⟨_, rfl⟩
          rw [hEe] at s2 hcd
          obtain ⟨D, hD⟩ : ∃ D, codeL (bPlain i) s = D := ⟨_, rfl⟩
          rw [hD] at s4 s5 s6 hcd
          obtain ⟨n, hn⟩ := Int.eq_ofNat_of_zero_le s3
          subst hn
          refine swp_region ty_ok ?_
          refine runs_cut 2 fun R36 hR36 => ?_
          try simp (maxSteps := 1000000) [bookV, s2, List.take_succ_cons, List.take_zero, List.drop_succ_cons, List.drop_zero]
          repeat' (first | apply And.intro | intro _)
          any_goals (first | (refine hR36 _ ?_; clear hR36) | (first | omega | (simp only [IntKind.wrap_i64] at *; omega) | (simp_all; done) | (simp_all; omega)))
          refine runs_cut 1 fun R37 hR37 => ?_
          try simp (maxSteps := 1000000) [bookV, s2, List.take_succ_cons, List.take_zero, List.drop_succ_cons, List.drop_zero]
          refine .inl ⟨_, hcd, ?_⟩
          try simp (maxSteps := 1000000) [bookV, s2]
          repeat' (first | apply And.intro | intro _)
          any_goals (first | (refine hR37 _ ?_; clear hR37) | (first | omega | (simp only [IntKind.wrap_i64] at *; omega) | (simp_all; done) | (simp_all; omega)))
          try simp (maxSteps := 1000000) [bookV, s2, List.take_succ_cons, List.take_zero, List.drop_succ_cons, List.drop_zero]
          repeat' (first | apply And.intro | intro _)
          any_goals (first | (refine hK35 _ ?_; clear hK35) | (first | omega | (simp only [IntKind.wrap_i64] at *; omega) | (simp_all; done) | (simp_all; omega)))
          refine swp_seq fun K38 hK38 => ?_
          refine swp_draw ty_ok mixed (ms := [0, 1, 3, 7, 15, 7, 7, 7, 231, 487, 1023, 2047, 4095]) (by kernel_rfl) ?_
          refine runD_cut 6 fun R39 hR39 => ?_
          try simp (maxSteps := 1000000) [bookV, s4, s6, Cells.sub, List.take_succ_cons, List.take_zero, List.drop_succ_cons, List.drop_zero]
          repeat' (first | apply And.intro | intro _)
          any_goals (first | (refine hR39 _ _ _ _ ?_; clear hR39) | (first | omega | (simp only [IntKind.wrap_i64] at *; omega) | (simp_all; done) | (simp_all; omega)))
          try simp (maxSteps := 1000000) [bookV, s4, s6, Cells.sub, List.take_succ_cons, List.take_zero, List.drop_succ_cons, List.drop_zero]
          repeat' (first | apply And.intro | intro _)
          any_goals (first | kernel_rfl | (refine hK38 _ ?_; clear hK38) | (first | omega | (simp only [IntKind.wrap_i64] at *; omega) | (simp_all; done) | (simp_all; omega)))
          refine swp_ret ?_
          simp [fnPost, Try.results9, resP, tupOf]
          have s7 : (b.drop n).take D.length = D := by simpa using s6
          rw [show ((n : Int) + (D.length : Int)).toNat - n = D.length by omega, s7]

end Go.Proofs.Ytjkpbhjppjamnaa

