import Derived.Test.YtgheplondkoedaaWf
import Derived.Test.YtgheplondkoedaaTyh
import Derived.Test.YtgheplondkoedaaBkq
import Derived.Test.YtgheplondkoedaaHsrt
import Derived.Test.YtgheplondkoedaaHbk
import Derived.Test.YtgheplondkoedaaHbk2
import Derived.Test.YtgheplondkoedaaHbk3
import Derived.Test.YtgheplondkoedaaHbits
import Derived.Test.YtgheplondkoedaaHrd
import Derived.Test.YtgheplondkoedaaHrdq
import Derived.Test.YtgheplondkoedaaHbits2
import Derived.Test.YtgheplondkoedaaHbk4
import Derived.Test.YtgheplondkoedaaHbk5
import Derived.Test.YtgheplondkoedaaHbk6
import Derived.Test.YtgheplondkoedaaHbk8
import Derived.Test.YtgheplondkoedaaHbk9
import Derived.Test.YtgheplondkoedaaHgrow
import Derived.Test.YtgheplondkoedaaHst
import Derived.Test.YtgheplondkoedaaHrep
import Derived.Test.YtgheplondkoedaaHputh
import Derived.Test.YtgheplondkoedaaHft
import Derived.Test.YtgheplondkoedaaHpt
import Derived.Test.YtgheplondkoedaaHsg
import Derived.Test.YtgheplondkoedaaHgh
namespace Go.Proofs.Ytgheplondkoedaa
set_option linter.unusedVariables false
set_option linter.unusedSimpArgs false
set_option maxRecDepth 10000
open Go Go.Pv

open Go.RowKit
theorem bl_band {n m : Nat} (h1 : 2 ^ m ≤ n) (h2 : n < 2 ^ (m + 1)) (hm : m ≤ 13) : Lib.bitLen n = m + 1 := by
  have hp : 2 ^ (m + 1) ≤ 2 ^ 14 := Nat.pow_le_pow_right (by omega) (by omega)
  have hp0 : 0 < 2 ^ m := Nat.pow_pos (by omega)
  rw [Lib.bitLen_shift m n h1 (by omega)]
  have e : n / 2 ^ m = 1 := by
    rw [Nat.pow_succ] at h2
    have a : 1 ≤ n / 2 ^ m := (Nat.one_le_div_iff hp0).2 h1
    have b : n / 2 ^ m < 2 := Nat.div_lt_of_lt_mul h2
    omega
  rw [e]
  rfl
theorem e_band {n : Nat} (h : 16 ≤ n ∧ n ≤ 8191) : ∃ m, m ≤ 8 ∧ 2 ^ (m + 4) ≤ n ∧ n < 2 ^ (m + 4 + 1) := by
  have : n < 32 ∨ (32 ≤ n ∧ n < 64) ∨ (64 ≤ n ∧ n < 128) ∨ (128 ≤ n ∧ n < 256) ∨ (256 ≤ n ∧ n < 512) ∨ (512 ≤ n ∧ n < 1024) ∨ (1024 ≤ n ∧ n < 2048) ∨ (2048 ≤ n ∧ n < 4096) ∨ 4096 ≤ n := by omega
  rcases this with a | a | a | a | a | a | a | a | a
  · exact ⟨0, by omega, by omega, by omega⟩
  · exact ⟨1, by omega, by omega, by omega⟩
  · exact ⟨2, by omega, by omega, by omega⟩
  · exact ⟨3, by omega, by omega, by omega⟩
  · exact ⟨4, by omega, by omega, by omega⟩
  · exact ⟨5, by omega, by omega, by omega⟩
  · exact ⟨6, by omega, by omega, by omega⟩
  · exact ⟨7, by omega, by omega, by omega⟩
  · exact ⟨8, by omega, by omega, by omega⟩
theorem hM_band {v : Int} {m : Nat} (hm : m ≤ 8) (h1 : 2 ^ (m + 4) ≤ v.natAbs) (h2 : v.natAbs < 2 ^ (m + 4 + 1)) : hM v = m ∧ v.natAbs % 2 ^ (m + 4) = v.natAbs - 2 ^ (m + 4) := by
  refine ⟨?_, ?_⟩
  · unfold hM
    rw [bl_band h1 h2 (by omega)]
    omega
  · rw [Nat.pow_succ] at h2
    rw [Nat.mod_eq_sub_mod h1, Nat.mod_eq_of_lt (by omega)]
theorem AtB.getG {b : List Int} {p : Int} {n s : Nat} (h : AtB b p (bitsOf n s)) (hs : s ≤ 31) (hn : n < 2 ^ s) : rN b (p, 0) (s : Nat) = n ∧ rG b (p, 0) (s : Nat) = (p + s, 0) := by
  obtain ⟨g1, g2⟩ := h.get hs hn
  refine ⟨g1, ?_⟩
  have e : (rG b (p, 0) (s : Nat)).2 = 0 := by
    rw [rG_e]
    have := congrArg Prod.snd g2
    exact this
  rw [(rG_S e).2, g2]
theorem AtB.bit {b : List Int} {p : Int} {x : Nat} {rest : List Int} (h : AtB b p ((x : Int) :: rest)) (hx : x ≤ 1) : rN b (p, 0) 1 = x ∧ rG b (p, 0) 1 = (p + 1, 0) ∧ AtB b (p + 1) rest := by
  have e : ((x : Int) :: rest) = bitsOf x 1 ++ rest := by
    have : x = 0 ∨ x = 1 := by omega
    rcases this with rfl | rfl <;> rfl
  rw [e] at h
  obtain ⟨a, c⟩ := h.app
  obtain ⟨g1, g2⟩ := a.getG (by omega) (by omega)
  exact ⟨g1, g2, by rw [bitsOf_len] at c; exact c⟩
def sg1 (v : Int) : Int := if v < 0 then 1 else 0
theorem Rds.oneG {b : List Int} (hb : ∀ y ∈ b, 0 ≤ y) (q : Int × Int) {z : Int} (hz : 0 ≤ z ∧ z ≤ 31) : Rds b q (rG b q z) (bitsOf (rN b q z).toNat z.toNat) := fun h => by
  have h1 := Rds.one hb q hz
  rw [← (rG_S h).2] at h1
  exact h1 h
theorem rN1 {b : List Int} (hb : ∀ y ∈ b, 0 ≤ y) (q : Int × Int) : rN b q 1 = 0 ∨ rN b q 1 = 1 := by
  have := rN_bd (b := b) (q := q) (z := 1) (s := 1) hb rfl
  have e : ((2 ^ 1 : Nat) : Int) = 2 := rfl
  rw [e] at this
  omega
theorem bits1 {x : Int} (h : x = 0 ∨ x = 1) : bitsOf x.toNat 1 = [x] := by
  rcases h with rfl | rfl <;> rfl
theorem Rds.bit {b : List Int} (hb : ∀ y ∈ b, 0 ≤ y) (q : Int × Int) : Rds b q (rG b q 1) [rN b q 1] := by
  have := Rds.oneG hb q (z := 1) (by omega)
  rwa [show (1 : Int).toNat = 1 from rfl, bits1 (rN1 hb q)] at this
def eL (b : List Int) (q : Int × Int) : List Int := List.replicate (eM b q) 1 ++ (0 :: bitsOf (rN b (eS b q) ((eM b q : Int) + 4)).toNat (eM b q + 4))
theorem esc_rds {b : List Int} (hb : ∀ y ∈ b, 0 ≤ y) (q : Int × Int) (h : (eF b q).2 = 0) : eM b q ≤ 8 ∧ Rds b q (eF b q) (eL b q) := by
  have h9 := eM_le b q
  have hC := eM_C b q
  have hm : eM b q ≤ 8 := by
    by_cases e : eM b q = 9
    · exfalso
      have e1 : eS b q = ((eQ b q 9).1, 8) := by
        unfold eS eR
        rw [if_pos e]
        exact rG_err 1 (by show ¬ (8 : Int) = 0; omega)
      unfold eF at h
      rw [e1, rG_err _ (by show ¬ (8 : Int) = 0; omega)] at h
      exact absurd h (by show ¬ (8 : Int) = 0; omega)
    · omega
  refine ⟨hm, ?_⟩
  have key : ∀ k, eC b q k → Rds b q (eQ b q k) (List.replicate k 1) := by
    intro k
    induction k with
    | zero => intro _; exact Rds.nil b q
    | succ k ih =>
      intro hc
      have a := ih fun j hj => hc j (by omega)
      have c := Rds.bit hb (eQ b q k)
      rw [hc k (by omega)] at c
      have d := a.app c
      rwa [List.replicate_succ']
  have a := key _ hC
  have hn : ¬ rN b (eQ b q (eM b q)) 1 = 1 := fun h1 => by
    have e := eM_at (b := b) (q := q) (k := eM b q)
    by_cases e8 : eM b q = 8
    · have hc9 : eC b q 9 := by
        have := eC_succ hC h1
        rwa [e8] at this
      have := eM_nine hc9
      omega
    · have hc1 := eC_succ hC h1
      have e2 : eGo b q 9 = eGo b q (9 - (eM b q + 1)) := eGo_at _ _ (by omega) hc1
      have key2 : ∀ f, f ≤ 9 → 9 - f ≤ eGo b q f := by
        intro f
        induction f with
        | zero => intro _; exact Nat.le_refl _
        | succ f ih =>
          intro hf
          rw [eGo]
          split
          · have := ih (by omega); omega
          · omega
      have := key2 (9 - (eM b q + 1)) (by omega)
      rw [← e2] at this
      have e3 : eGo b q 9 = eM b q := rfl
      omega
  have c := Rds.bit hb (eQ b q (eM b q))
  have h0 : rN b (eQ b q (eM b q)) 1 = 0 := by
    rcases rN1 hb (eQ b q (eM b q)) with h | h
    · exact h
    · exact absurd h hn
  rw [h0] at c
  have eSe : eS b q = rG b (eQ b q (eM b q)) 1 := by unfold eS; rw [eR_lo hm]
  rw [← eSe] at c
  have d := Rds.oneG hb (eS b q) (z := (eM b q : Int) + 4) (by omega)
  have f := a.app (c.app d)
  rw [show ((eM b q : Int) + 4).toNat = eM b q + 4 by omega] at f
  exact f
def sL (b T : List Int) (q : Int × Int) : Nat → List Int
  | 0 => []
  | k + 1 => sL b T q k ++ (if T[k]?.getD 0 = 0 then [] else [sB b T q k])
def vL (b : List Int) (i : Nat) (T : List Int) (q : Int × Int) : Nat → List Int
  | 0 => []
  | k + 1 => vL b i T q k ++ (if vC i T k then eL b (vQ b i T q k) else [])
theorem sg_rds {b T : List Int} (hb : ∀ y ∈ b, 0 ≤ y) (q : Int × Int) : ∀ k, Rds b q (sQ b T q k) (sL b T q k)
  | 0 => Rds.nil b q
  | k + 1 => by
    have ih := sg_rds (T := T) hb q k
    rw [sQ, sL, sB]
    split
    · rw [List.append_nil]; exact ih
    · exact ih.app (Rds.bit hb _)
theorem vs_rds {b : List Int} {i : Nat} {T : List Int} (hb : ∀ y ∈ b, 0 ≤ y) (q : Int × Int) : ∀ k, (vQ b i T q k).2 = 0 → Rds b q (vQ b i T q k) (vL b i T q k)
  | 0, _ => Rds.nil b q
  | k + 1, h => by
    have h0 : (vQ b i T q k).2 = 0 := by
      by_cases e : (vQ b i T q k).2 = 0
      · exact e
      · rw [vQ_e1 e] at h; exact absurd h e
    have ih := vs_rds hb q k h0
    rw [vQ] at h ⊢
    rw [vL]
    split at h
    · rename_i hc
      rw [if_pos hc, if_pos hc]
      exact ih.app (esc_rds hb _ h).2
    · rename_i hc
      rw [if_neg hc, if_neg hc, List.append_nil]
      exact ih
theorem sB_bit {b T : List Int} (hb : ∀ y ∈ b, 0 ≤ y) (q : Int × Int) (k : Nat) : (sB b T q k = 0 ∨ sB b T q k = 1) ∧ (T[k]?.getD 0 = 0 → sB b T q k = 0) := by
  unfold sB
  split
  · exact ⟨.inl rfl, fun _ => rfl⟩
  · exact ⟨rN1 hb _, fun h => absurd h (by assumption)⟩
theorem sV_at {b T : List Int} (q : Int × Int) : ∀ (n k : Nat), k < n → (sV b T q n)[k]?.getD 0 = sB b T q k
  | 0, k, h => by omega
  | n + 1, k, h => by
    rw [sV]
    by_cases e : k = n
    · subst e
      rw [List.getElem?_append_right (by rw [sV_len]; exact Nat.le_refl _), sV_len, Nat.sub_self]
      rfl
    · rw [List.getElem?_append_left (by rw [sV_len]; omega)]
      exact sV_at q n k (by omega)
/-- What is read without an error has just these bits. -/
theorem vs_got {b : List Int} {i : Nat} {T sg : List Int} {n : Nat} (h1 : 1 ≤ i) (h2 : i ≤ 11) (hs : hSig i = false) (hb : ∀ y ∈ b, 0 ≤ y) (q : Int × Int) (hT : ∀ k, k < n → 0 ≤ T[k]?.getD 0 ∧ T[k]?.getD 0 ≤ bHigh i) (hn : T.length = n)
    (hsg : ∀ k, k < n → (sg[k]?.getD 0 = 0 ∨ sg[k]?.getD 0 = 1) ∧ (T[k]?.getD 0 = 0 → sg[k]?.getD 0 = 0)) (he : (vQ b i T q n).2 = 0) :
    ∀ k, k ≤ n → hEs i (vV b i T sg q k) = vL b i T q k ∧ hTold i (vV b i T sg q k) = T.take k ∧ hFit i (vV b i T sg q k) = true ∧ ∀ j, j < k → hS1 ((vV b i T sg q k)[j]?.getD 0) = (if T[j]?.getD 0 = 0 then [] else [sg[j]?.getD 0])
  | 0, _ => ⟨rfl, by simp [vV, hTold], rfl, fun j hj => by omega⟩
  | k + 1, hk => by
    obtain ⟨a, c, d, e⟩ := vs_got h1 h2 hs hb q hT hn hsg he k (by omega)
    have h0 : (vQ b i T q (k + 1)).2 = 0 := by
      by_cases e : (vQ b i T q (k + 1)).2 = 0
      · exact e
      · rw [vQ_err hk e] at he; exact absurd he e
    obtain ⟨t1, t2⟩ := hT k (by omega)
    obtain ⟨s1, s2⟩ := hsg k (by omega)
    have hF := hkF h1 h2
    obtain ⟨u1, u2, u3⟩ := hF.u hs
    have hm := hF.m
    have h11 : i = 11 → hMost i = 8191 := fun h => by subst h; rfl
    have key : (vB b i T sg q k).natAbs = vX b i T q k ∧ (vB b i T sg q k = 0 ↔ T[k]?.getD 0 = 0) ∧ hE1 i (vB b i T sg q k) = (if vC i T k then eL b (vQ b i T q k) else []) ∧ hT1 i (vB b i T sg q k) = T[k]?.getD 0 ∧ fitV i (vB b i T sg q k) = true ∧ hS1 (vB b i T sg q k) = (if T[k]?.getD 0 = 0 then [] else [sg[k]?.getD 0]) := by
      by_cases hc : vC i T k
      · have hc1 := hc
        unfold vC at hc1
        rw [vQ, if_pos hc] at h0
        obtain ⟨m8, _⟩ := esc_rds hb _ h0
        have e0 : vX b i T q k = eV b (vQ b i T q k) := if_pos hc
        obtain ⟨m, hM⟩ : ∃ m, eM b (vQ b i T q k) = m := ⟨_, rfl⟩
        obtain ⟨r, hR⟩ : ∃ r, rN b (eS b (vQ b i T q k)) ((eM b (vQ b i T q k) : Int) + 4) = r := ⟨_, rfl⟩
        have hrb := rN_bd (b := b) (q := eS b (vQ b i T q k)) (z := (eM b (vQ b i T q k) : Int) + 4) (s := m + 4) hb (by rw [hM]; push_cast; rfl)
        rw [hR] at hrb
        obtain ⟨r, rfl⟩ := Int.eq_ofNat_of_zero_le hrb.1
        have hrb2 : r < 2 ^ (m + 4) := by have := hrb.2; exact_mod_cast this
        have e1 : eV b (vQ b i T q k) = ((2 ^ (m + 4) + r : Nat) : Int) := by unfold eV; rw [hR, hM]; push_cast; rfl
        have eLe : eL b (vQ b i T q k) = List.replicate m 1 ++ (0 :: bitsOf r (m + 4)) := by unfold eL; rw [hR, hM]; rfl
        have hp := two_le (m := m) (by omega)
        have hp8 : 2 ^ (m + 4) ≤ 2 ^ 12 := Nat.pow_le_pow_right (by omega) (by omega)
        obtain ⟨N, hN⟩ : ∃ N, 2 ^ (m + 4) + r = N := ⟨_, rfl⟩
        rw [hN] at e1
        have hvb : vB b i T sg q k = if sg[k]?.getD 0 = 1 then -(N : Int) else N := by unfold vB; rw [e0, e1]
        have hab : (vB b i T sg q k).natAbs = N := by rw [hvb]; split <;> omega
        have hbd1 : 2 ^ (m + 4) ≤ (vB b i T sg q k).natAbs := by omega
        have hbd2 : (vB b i T sg q k).natAbs < 2 ^ (m + 4 + 1) := by rw [Nat.pow_succ]; omega
        obtain ⟨n1, n2⟩ := hM_band (by omega) hbd1 hbd2
        have hmo := h11 hc1.1
        have hne : ¬ T[k]?.getD 0 = 0 := by omega
        refine ⟨by rw [hab, e0, e1], ⟨fun h => by omega, fun h => absurd h hne⟩, ?_, ?_, ?_, ?_⟩
        · rw [if_pos hc, eLe]
          unfold hE1
          rw [if_pos ⟨hc1.1, by omega⟩, n1, n2, show (vB b i T sg q k).natAbs - 2 ^ (m + 4) = r by omega]
        · unfold hT1; rw [if_pos ⟨hc1.1, by omega⟩]; exact hc1.2.symm
        · unfold fitV; rw [decide_eq_true_eq, hmo, hvb]; split <;> omega
        · rw [if_neg hne]
          unfold hS1
          rw [hvb]
          rcases s1 with h | h <;> rw [h]
          · rw [if_neg (by omega), if_neg (by omega)]
          · rw [if_pos rfl, if_neg (by omega), if_pos (by omega)]
      · have e0 : vX b i T q k = T[k]?.getD 0 := if_neg hc
        obtain ⟨t, ht⟩ := Int.eq_ofNat_of_zero_le t1
        unfold vC at hc
        rw [ht] at e0 hc t2 s2 ⊢
        have hvb : vB b i T sg q k = if sg[k]?.getD 0 = 1 then -(t : Int) else t := by unfold vB; rw [e0]
        have hab : (vB b i T sg q k).natAbs = t := by rw [hvb]; split <;> omega
        have hno : ¬ (i = 11 ∧ 16 ≤ (vB b i T sg q k).natAbs) := fun h => by
          have := u3 h.1
          exact hc ⟨h.1, by omega⟩
        refine ⟨by rw [hab, e0], by omega, ?_, ?_, ?_, ?_⟩
        · rw [if_neg (by unfold vC; rw [ht]; exact hc)]
          unfold hE1; rw [if_neg hno]
        · unfold hT1; rw [if_neg hno, hab]
        · unfold fitV
          rw [decide_eq_true_eq]
          by_cases h11' : i = 11
          · have := u3 h11'; have := h11 h11'; omega
          · have := u2 h11'; omega
        · unfold hS1
          rw [hvb]
          by_cases h : (t : Int) = 0
          · rw [if_pos h, if_pos (by split <;> omega)]
          · rw [if_neg h]
            rcases s1 with h3 | h3 <;> rw [h3]
            · rw [if_neg (by omega), if_neg (by omega)]
            · rw [if_pos rfl, if_neg (by omega), if_pos (by omega)]
    obtain ⟨k1, k2, k3, k4, k5, k6⟩ := key
    rw [vV]
    refine ⟨?_, ?_, ?_, fun j hj => ?_⟩
    · rw [vL, ← k3, ← a]; simp [hEs]
    · rw [take_snocI (by omega), ← k4, ← c]; simp [hTold]
    · unfold hFit at d ⊢
      rw [List.all_append, d]
      simp [k5]
    · by_cases ej : j = k
      · subst ej
        rw [List.getElem?_append_right (by rw [vV_len]; exact Nat.le_refl _), vV_len, Nat.sub_self]
        exact k6
      · rw [List.getElem?_append_left (by rw [vV_len]; omega)]
        exact e j (by omega)
theorem sg_of {W T : List Int} {b : List Int} {q : Int × Int} : ∀ n, W.length = n → (∀ j, j < n → hS1 (W[j]?.getD 0) = (if T[j]?.getD 0 = 0 then [] else [sB b T q j])) → hSg W = sL b T q n := by
  intro n hn h
  have key : ∀ k, k ≤ n → hSg (W.take k) = sL b T q k := by
    intro k
    induction k with
    | zero => intro _; simp [hSg, sL]
    | succ k ih =>
      intro hk
      rw [sg_snoc (by omega), ih (by omega), h k (by omega), sL]
  have := key n (Nat.le_refl _)
  rwa [List.take_of_length_le (by omega)] at this
theorem rk_of {i r : Nat} (h1 : 1 ≤ i) (h2 : i ≤ 12) (hr : r < bMany i) : rkE i ((bEnt i)[r]?.getD 0) = r ∧ (bE i)[r]?.getD 0 = ((bEnt i)[r]?.getD 0 : Nat) ∧ (bEnt i)[r]?.getD 0 < bMany i := by
  have hE := bke h1 h2
  obtain ⟨a, c⟩ := hE.ea (r := r) (by first | exact hr | (rw [hE.elen]; exact hr))
  exact ⟨hE.er r hr, a, c⟩
theorem take_two {b : List Int} {n : Nat} {A B : List Int} (h1 : (b.drop n).take A.length = A) (h2 : (b.drop (n + A.length)).take B.length = B) : (b.drop n).take (A ++ B).length = A ++ B := by
  rw [List.length_append, List.take_add, h1, List.drop_drop, h2]
/-- What is got fits, and has just these bits. -/
theorem get_got {i : Nat} {b : List Int} {a : Int} (h1 : 1 ≤ i) (h2 : i ≤ 11) (hb : ∀ k : Nat, 0 ≤ b[k]?.getD 0 ∧ b[k]?.getD 0 ≤ 255) (h : hgE i b a = 0) : (hgV i b a).length = bDim i ∧ hFit i (hgV i b a) = true ∧ ∃ n : Nat, a = n ∧ hgP i b a = (n : Int) + ((huffL i (hgV i b a)).length : Nat) ∧ n + (huffL i (hgV i b a)).length ≤ b.length ∧ (b.drop n).take (huffL i (hgV i b a)).length = huffL i (hgV i b a) := by
  have hE := bke h1 (by omega : i ≤ 12)
  have hB := bk_ok h1 (by omega : i ≤ 12)
  have hm := hB.many
  have hF := hkF h1 h2
  have hf0 : fdE (bPlain i) (bMany i) b a = 0 := by
    by_cases e : fdE (bPlain i) (bMany i) b a = 0
    · exact e
    · rw [(hg_f e).2.2] at h; exact absurd h e
  have hf1 : fdE (bPlain i) (bE i).length b a = 0 := by rw [hE.elen]; exact hf0
  obtain ⟨r, hr, k1, k2, k3, k4, k5⟩ := read_code hB.plain hb (by rw [hE.elen]; omega) hf1
  rw [hE.elen] at hr
  obtain ⟨r1, r2, r3⟩ := rk_of h1 (by omega : i ≤ 12) hr
  obtain ⟨e, he⟩ : ∃ e, (bEnt i)[r]?.getD 0 = e := ⟨_, rfl⟩
  rw [he] at r1 r2 r3
  rw [r2] at k1
  obtain ⟨n, rfl⟩ := Int.eq_ofNat_of_zero_le k2
  rw [Int.toNat_natCast] at k5
  have hgl : hgL i b n = bVal i e := by rw [hgL, k1, Int.toNat_natCast]
  have hvl := bVal_len i e
  obtain ⟨b1, b2⟩ := bVal_ok hB e r3
  obtain ⟨b3, b4, b5⟩ := entV_ok hB b1
  have hent : entN i (bVal i e) = e := by
    rw [b2] at b4
    exact_mod_cast b4.symm
  cases hs : hSig i with
  | true =>
    obtain ⟨g1, g2, g3⟩ := hg_s hf0 hs
    rw [hgl] at g1
    have hL : huffL i (bVal i e) = codeL (bPlain i) r := by unfold huffL; rw [if_pos hs, hent, r1]
    rw [g1, g2, hL]
    refine ⟨hvl, ?_, n, rfl, k3, by omega, k5⟩
    refine List.all_eq_true.2 fun v hv => ?_
    have := bDg_bd hB _ _ _ hv
    obtain ⟨u1, u2, _⟩ := hF.s hs
    unfold fitV
    rw [decide_eq_true_eq]
    omega
  | false =>
    have hq : (hgQ i b n).2 = 0 := by
      by_cases e : (hgQ i b n).2 = 0
      · exact e
      · rw [(hg_e hf0 hs e).2.2] at h; exact absurd h e
    obtain ⟨g1, g2, g3⟩ := hg_w hf0 hs hq
    obtain ⟨f1, f2⟩ := hgQ_eq hgl hvl
    obtain ⟨P, hP⟩ : ∃ P, fdP (bPlain i) (bE i) b n = P := ⟨_, rfl⟩
    rw [hP] at f1 f2 k3
    have hq2 : (vQ b i (bVal i e) (sQ b (bVal i e) (P, 0) (bDim i)) (bDim i)).2 = 0 := by rw [← f1]; exact hq
    have hnn := nn hb
    have w1 := sg_rds (T := bVal i e) hnn (P, 0) (bDim i)
    have w2 := vs_rds hnn _ _ hq2
    have w := w1.app w2
    obtain ⟨w3, w4, w5, w6⟩ := w hq2
    have hsg : ∀ k, k < bDim i → ((sV b (bVal i e) (P, 0) (bDim i))[k]?.getD 0 = 0 ∨ (sV b (bVal i e) (P, 0) (bDim i))[k]?.getD 0 = 1) ∧ ((bVal i e)[k]?.getD 0 = 0 → (sV b (bVal i e) (P, 0) (bDim i))[k]?.getD 0 = 0) := fun k hk => by
      rw [sV_at _ _ _ hk]
      exact sB_bit hnn _ k
    have hT : ∀ k, k < bDim i → 0 ≤ (bVal i e)[k]?.getD 0 ∧ (bVal i e)[k]?.getD 0 ≤ bHigh i := fun k hk => by
      have hk2 : k < (bVal i e).length := by omega
      have hmem : (bVal i e)[k]?.getD 0 ∈ bVal i e := by
        rw [List.getElem?_eq_getElem hk2]
        exact List.getElem_mem hk2
      have := bDg_bd hB _ _ _ hmem
      have := (hF.u hs).1
      omega
    obtain ⟨x1, x2, x3, x4⟩ := vs_got h1 h2 hs hnn (sQ b (bVal i e) (P, 0) (bDim i)) hT hvl hsg hq2 (bDim i) (Nat.le_refl _)
    rw [List.take_of_length_le (by omega)] at x2
    rw [← f2] at x1 x2 x3 x4
    have hwl : (hgW i b n).length = bDim i := by rw [f2, vV_len]
    have x5 : hSg (hgW i b n) = sL b (bVal i e) (P, 0) (bDim i) := sg_of (bDim i) hwl fun j hj => by
      rw [x4 j hj, sV_at _ _ _ hj]
    have hL : huffL i (hgW i b n) = codeL (bPlain i) r ++ (sL b (bVal i e) (P, 0) (bDim i) ++ vL b i (bVal i e) (sQ b (bVal i e) (P, 0) (bDim i)) (bDim i)) := by
      unfold huffL
      rw [if_neg (by rw [hs]; simp), x1, x2, x5, hent, r1, List.append_assoc]
    rw [← f1] at w4
    rw [g1, g2, hL]
    have w4' : (hgQ i b n).1 = P + ((sL b (bVal i e) (P, 0) (bDim i) ++ vL b i (bVal i e) (sQ b (bVal i e) (P, 0) (bDim i)) (bDim i)).length : Nat) := w4
    have w5' : (b.drop (n + (codeL (bPlain i) r).length)).take (sL b (bVal i e) (P, 0) (bDim i) ++ vL b i (bVal i e) (sQ b (bVal i e) (P, 0) (bDim i)) (bDim i)).length = sL b (bVal i e) (P, 0) (bDim i) ++ vL b i (bVal i e) (sQ b (bVal i e) (P, 0) (bDim i)) (bDim i) := by
      have : n + (codeL (bPlain i) r).length = P.toNat := by omega
      rw [this]
      exact w5
    have w6' : 0 < (sL b (bVal i e) (P, 0) (bDim i) ++ vL b i (bVal i e) (sQ b (bVal i e) (P, 0) (bDim i)) (bDim i)).length → 0 ≤ P ∧ P + ((sL b (bVal i e) (P, 0) (bDim i) ++ vL b i (bVal i e) (sQ b (bVal i e) (P, 0) (bDim i)) (bDim i)).length : Nat) ≤ b.length := w6
    refine ⟨hwl, x3, n, rfl, ?_, ?_, take_two k5 w5'⟩
    · rw [w4']
      simp only [List.length_append]
      push_cast
      omega
    · rw [List.length_append]
      by_cases hl : 0 < (sL b (bVal i e) (P, 0) (bDim i) ++ vL b i (bVal i e) (sQ b (bVal i e) (P, 0) (bDim i)) (bDim i)).length
      · have := w6' hl; omega
      · omega

end Go.Proofs.Ytgheplondkoedaa

