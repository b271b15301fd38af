import Derived.Test.YtgheplondkoedaaWf
import Derived.Test.YtgheplondkoedaaTyh
import Derived.Test.YtgheplondkoedaaBkq
import Derived.Test.YtgheplondkoedaaHsrt
import Derived.Test.YtgheplondkoedaaHbk
import Derived.Test.YtgheplondkoedaaHbk2
import Derived.Test.YtgheplondkoedaaHbk3
import Derived.Test.YtgheplondkoedaaHbits
import Derived.Test.YtgheplondkoedaaHrd
import Derived.Test.YtgheplondkoedaaHrdq
import Derived.Test.YtgheplondkoedaaHbits2
import Derived.Test.YtgheplondkoedaaHbk4
import Derived.Test.YtgheplondkoedaaHbk5
import Derived.Test.YtgheplondkoedaaHbk6
import Derived.Test.YtgheplondkoedaaHbk8
import Derived.Test.YtgheplondkoedaaHbk9
import Derived.Test.YtgheplondkoedaaHgrow
import Derived.Test.YtgheplondkoedaaHst
import Derived.Test.YtgheplondkoedaaHrep
import Derived.Test.YtgheplondkoedaaHputh
import Derived.Test.YtgheplondkoedaaHft
import Derived.Test.YtgheplondkoedaaHpt
import Derived.Test.YtgheplondkoedaaHsg
namespace Go.Proofs.Ytgheplondkoedaa
set_option linter.unusedVariables false
set_option linter.unusedSimpArgs false
set_option maxRecDepth 10000
open Go Go.Pv

open Go.RowKit
/-- The reader's state (place, error) behind a read: the place goes on only without an error. -/
def rG (b : List Int) (q : Int × Int) (z : Int) : Int × Int := if q.2 = 0 then (if getE b q.1 z = 0 then (getP b q.1 z, 0) else (q.1, getE b q.1 z)) else q
theorem rG_bd {b : List Int} (hb : b.length ≤ 140737488355328) {q : Int × Int} (h : Bd q) (z : Int) : Bd (rG b q z) := by
  unfold Bd rG
  split
  · split
    · have := getP_bd (b := b) (p := q.1) (size := z) hb
      exact ⟨by omega, by omega⟩
    · exact h
  · exact h
theorem rG_err {b : List Int} {q : Int × Int} (z : Int) (h : ¬ q.2 = 0) : rG b q z = q := if_neg h
theorem rG_no {b : List Int} {q : Int × Int} {z : Int} (h : q.2 = 0) (h2 : ¬ getE b q.1 z = 0) : rG b q z = (q.1, getE b q.1 z) := by
  unfold rG
  rw [if_pos h, if_neg h2]
theorem rG_yes {b : List Int} {q : Int × Int} {z : Int} (h : q.2 = 0) (h2 : getE b q.1 z = 0) : rG b q z = (getP b q.1 z, 0) := by
  unfold rG
  rw [if_pos h, if_pos h2]
theorem rN_err {b : List Int} {q : Int × Int} (z : Int) (h : ¬ q.2 = 0) : rN b q z = 0 := if_neg h
theorem rN_go {b : List Int} {q : Int × Int} (z : Int) (h : q.2 = 0) : rN b q z = getN b q.1 z := if_pos h
theorem rG_e {b : List Int} {q : Int × Int} {z : Int} : (rG b q z).2 = if q.2 = 0 then getE b q.1 z else q.2 := by
  unfold rG
  split
  · split
    · rename_i h; exact h.symm
    · rfl
  · rfl
/-- Without an error it is as the other state. -/
theorem rG_S {b : List Int} {q : Int × Int} {z : Int} (h : (rG b q z).2 = 0) : q.2 = 0 ∧ rG b q z = rS b q z := by
  rw [rG_e] at h
  split at h
  · rename_i he
    refine ⟨he, ?_⟩
    rw [rG_yes he h]
    unfold rS rdP rdE
    rw [if_pos he, if_pos he, h]
  · rename_i he
    exact absurd h he
theorem rG_nz {b : List Int} {q : Int × Int} {z : Int} (h : ¬ rN b q z = 0) : q.2 = 0 ∧ (rG b q z).2 = 0 := by
  obtain ⟨h1, h2⟩ := rN_nz h
  refine ⟨h1, ?_⟩
  rw [rG_e, if_pos h1]
  have h3 : rdE b q.1 q.2 z = 0 := h2
  unfold rdE at h3
  rwa [if_pos h1] at h3
/-- The state behind k ones of an escape. -/
def eQ (b : List Int) (q : Int × Int) : Nat → Int × Int
  | 0 => q
  | k + 1 => rG b (eQ b q k) 1
def eC (b : List Int) (q : Int × Int) (k : Nat) : Prop := ∀ j, j < k → rN b (eQ b q j) 1 = 1
/-- How many ones, from the kth on; nine at most. -/
def eGo (b : List Int) (q : Int × Int) : Nat → Nat
  | 0 => 9
  | f + 1 => if rN b (eQ b q (8 - f)) 1 = 1 then eGo b q f else 8 - f
def eM (b : List Int) (q : Int × Int) : Nat := eGo b q 9
def eR (b : List Int) (q : Int × Int) (k : Nat) : Int × Int := if k = 9 then ((eQ b q 9).1, 8) else eQ b q k
def eS (b : List Int) (q : Int × Int) : Int × Int := rG b (eR b q (eM b q)) 1
/-- An escape's size, and the state behind it. -/
def eV (b : List Int) (q : Int × Int) : Int := ((2 ^ (eM b q + 4) : Nat) : Int) + rN b (eS b q) ((eM b q : Int) + 4)
def eF (b : List Int) (q : Int × Int) : Int × Int := rG b (eS b q) ((eM b q : Int) + 4)
theorem eC_zero (b : List Int) (q : Int × Int) : eC b q 0 := fun j h => by omega
theorem eC_succ {b : List Int} {q : Int × Int} {k : Nat} (h : eC b q k) (h1 : rN b (eQ b q k) 1 = 1) : eC b q (k + 1) := fun j hj => by
  by_cases e : j = k
  · rw [e]; exact h1
  · exact h j (by omega)
theorem eGo_at {b : List Int} {q : Int × Int} : ∀ (f k : Nat), k + f = 9 → eC b q k → eGo b q 9 = eGo b q f
  | f, 0, h, _ => by rw [show f = 9 by omega]
  | f, k + 1, h, hc => by
    rw [eGo_at (f + 1) k (by omega) fun j hj => hc j (by omega)]
    rw [eGo, show 8 - f = k by omega, if_pos (hc k (by omega))]
theorem eM_nine {b : List Int} {q : Int × Int} (hc : eC b q 9) : eM b q = 9 := eGo_at 0 9 rfl hc
theorem eM_at {b : List Int} {q : Int × Int} {k : Nat} (hk : k ≤ 8) (hc : eC b q k) (h : ¬ rN b (eQ b q k) 1 = 1) : eM b q = k := by
  unfold eM
  rw [eGo_at (9 - k) k (by omega) hc, show 9 - k = (8 - k) + 1 by omega, eGo, show 8 - (8 - k) = k by omega, if_neg h]
theorem eM_eq {b : List Int} {q : Int × Int} {k : Nat} (hk : k ≤ 9) (hc : eC b q k) (h : ¬ rN b (eR b q k) 1 = 1) : eM b q = k := by
  by_cases e : k = 9
  · subst e; exact eM_nine hc
  · rw [eR, if_neg e] at h
    exact eM_at (by omega) hc h
theorem eGo_le (b : List Int) (q : Int × Int) : ∀ f, eGo b q f ≤ 9
  | 0 => Nat.le_refl _
  | f + 1 => by
    rw [eGo]
    split
    · exact eGo_le b q f
    · omega
theorem eM_le (b : List Int) (q : Int × Int) : eM b q ≤ 9 := eGo_le b q 9
theorem eM_C (b : List Int) (q : Int × Int) : eC b q (eM b q) := by
  have key : ∀ f k, k + f = 9 → eC b q k → eC b q (eGo b q f) := by
    intro f
    induction f with
    | zero => intro k h hc; rw [eGo]; rw [show k = 9 by omega] at hc; exact hc
    | succ f ih =>
      intro k h hc
      rw [eGo, show 8 - f = k by omega]
      split
      · rename_i h1
        exact ih (k + 1) (by omega) (eC_succ hc h1)
      · exact hc
  exact key 9 0 rfl (eC_zero b q)
theorem eR_one {b : List Int} {q : Int × Int} {k : Nat} (hk : k ≤ 9) (h : rN b (eR b q k) 1 = 1) : k ≤ 8 ∧ rN b (eQ b q k) 1 = 1 := by
  by_cases e : k = 9
  · subst e
    rw [eR, if_pos rfl, rN_err 1 (by show ¬ (8 : Int) = 0; omega)] at h
    omega
  · rw [eR, if_neg e] at h
    exact ⟨by omega, h⟩
theorem eR_nx {b : List Int} {q : Int × Int} {k : Nat} (hk : k < 8) : eR b q (k + 1) = rG b (eR b q k) 1 := by
  unfold eR
  rw [if_neg (by omega), if_neg (by omega), eQ]
theorem eR_nx8 {b : List Int} {q : Int × Int} {k : Nat} (hk : k = 8) : eR b q (k + 1) = ((rG b (eR b q k) 1).1, 8) := by
  subst hk
  unfold eR
  rw [if_pos rfl, if_neg (by omega), eQ]
theorem eR_zero (b : List Int) (q : Int × Int) : eR b q 0 = q := rfl
theorem shlK {k : Nat} (h : k ≤ 9) : IntKind.i64.wrap (2 ^ min (k + 4) 64) = ((2 ^ (k + 4) : Nat) : Int) := by
  have : ∀ n : Fin 10, IntKind.i64.wrap (2 ^ min (n.val + 4) 64) = ((2 ^ (n.val + 4) : Nat) : Int) := by decide
  exact this ⟨k, by omega⟩
theorem eR_lo {b : List Int} {q : Int × Int} {k : Nat} (h : k ≤ 8) : eR b q k = eQ b q k := if_neg (by omega)
theorem eQ_bd {b : List Int} (hb : b.length ≤ 140737488355328) {q : Int × Int} (h : Bd q) : ∀ k, Bd (eQ b q k)
  | 0 => h
  | k + 1 => rG_bd hb (eQ_bd hb h k) 1
theorem eR_bd {b : List Int} (hb : b.length ≤ 140737488355328) {q : Int × Int} (h : Bd q) (k : Nat) : Bd (eR b q k) := by
  unfold eR
  split
  · exact eQ_bd hb h 9
  · exact eQ_bd hb h k
theorem eS_bd {b : List Int} (hb : b.length ≤ 140737488355328) {q : Int × Int} (h : Bd q) : Bd (eS b q) := rG_bd hb (eR_bd hb h _) 1
theorem eF_bd {b : List Int} (hb : b.length ≤ 140737488355328) {q : Int × Int} (h : Bd q) : Bd (eF b q) := rG_bd hb (eS_bd hb h) _
theorem rN_le {b : List Int} {q : Int × Int} {s : Nat} (hp : ∀ y ∈ b, 0 ≤ y) (hs : s ≤ 13) : 0 ≤ rN b q (s : Nat) ∧ rN b q (s : Nat) ≤ 8191 := by
  have h := rN_bd (b := b) (q := q) (z := (s : Nat)) (s := s) hp rfl
  have : 2 ^ s ≤ 2 ^ 13 := Nat.pow_le_pow_right (by omega) hs
  omega
theorem two_le {m : Nat} (h : m ≤ 9) : 16 ≤ 2 ^ (m + 4) ∧ 2 ^ (m + 4) ≤ 8192 := by
  have h1 : 2 ^ 4 ≤ 2 ^ (m + 4) := Nat.pow_le_pow_right (by omega) (by omega)
  have h2 : 2 ^ (m + 4) ≤ 2 ^ 13 := Nat.pow_le_pow_right (by omega) (by omega)
  omega
theorem eV_bd {b : List Int} (hp : ∀ y ∈ b, 0 ≤ y) (q : Int × Int) : 16 ≤ eV b q ∧ eV b q ≤ 16383 := by
  have h9 := eM_le b q
  have h1 := two_le h9
  have h2 := rN_le (b := b) (q := eS b q) (s := eM b q + 4) hp (by omega)
  rw [show ((eM b q + 4 : Nat) : Int) = (eM b q : Int) + 4 by push_cast; rfl] at h2
  unfold eV
  omega
theorem eF_err {b : List Int} {q : Int × Int} (h : ¬ q.2 = 0) : eF b q = q ∧ eM b q = 0 := by
  have hm : eM b q = 0 := eM_at (by omega) (eC_zero b q) (by show ¬ rN b q 1 = 1; rw [rN_err 1 h]; omega)
  refine ⟨?_, hm⟩
  unfold eF eS
  rw [hm, eR_lo (by omega)]
  show rG b (rG b q 1) _ = q
  rw [rG_err 1 h, rG_err _ h]
/-- The signs' loop: the state, and the signs. -/
def sQ (b vs : List Int) (q : Int × Int) : Nat → Int × Int
  | 0 => q
  | k + 1 => if vs[k]?.getD 0 = 0 then sQ b vs q k else rG b (sQ b vs q k) 1
def sB (b vs : List Int) (q : Int × Int) (k : Nat) : Int := if vs[k]?.getD 0 = 0 then 0 else rN b (sQ b vs q k) 1
def sV (b vs : List Int) (q : Int × Int) : Nat → List Int
  | 0 => []
  | k + 1 => sV b vs q k ++ [sB b vs q k]
/-- The values' loop. -/
def vC (i : Nat) (vs : List Int) (k : Nat) : Prop := i = 11 ∧ vs[k]?.getD 0 = 16
instance (i : Nat) (vs : List Int) (k : Nat) : Decidable (vC i vs k) := inferInstanceAs (Decidable (_ ∧ _))
def vQ (b : List Int) (i : Nat) (vs : List Int) (q : Int × Int) : Nat → Int × Int
  | 0 => q
  | k + 1 => if vC i vs k then eF b (vQ b i vs q k) else vQ b i vs q k
def vX (b : List Int) (i : Nat) (vs : List Int) (q : Int × Int) (k : Nat) : Int := if vC i vs k then eV b (vQ b i vs q k) else vs[k]?.getD 0
def vB (b : List Int) (i : Nat) (vs sg : List Int) (q : Int × Int) (k : Nat) : Int := if sg[k]?.getD 0 = 1 then -(vX b i vs q k) else vX b i vs q k
def vV (b : List Int) (i : Nat) (vs sg : List Int) (q : Int × Int) : Nat → List Int
  | 0 => []
  | k + 1 => vV b i vs sg q k ++ [vB b i vs sg q k]
theorem sV_len (b vs : List Int) (q : Int × Int) : ∀ k, (sV b vs q k).length = k
  | 0 => rfl
  | k + 1 => by rw [sV, List.length_append, sV_len b vs q k]; rfl
theorem vV_len (b : List Int) (i : Nat) (vs sg : List Int) (q : Int × Int) : ∀ k, (vV b i vs sg q k).length = k
  | 0 => rfl
  | k + 1 => by rw [vV, List.length_append, vV_len b i vs sg q k]; rfl
theorem sQ_bd {b : List Int} (hb : b.length ≤ 140737488355328) {q : Int × Int} (vs : List Int) (h : Bd q) : ∀ k, Bd (sQ b vs q k)
  | 0 => h
  | k + 1 => by
    rw [sQ]
    split
    · exact sQ_bd hb vs h k
    · exact rG_bd hb (sQ_bd hb vs h k) 1
theorem vQ_bd {b : List Int} (hb : b.length ≤ 140737488355328) {q : Int × Int} (i : Nat) (vs : List Int) (h : Bd q) : ∀ k, Bd (vQ b i vs q k)
  | 0 => h
  | k + 1 => by
    rw [vQ]
    split
    · exact eF_bd hb (vQ_bd hb i vs h k)
    · exact vQ_bd hb i vs h k
theorem sQ_e1 {b vs : List Int} {q : Int × Int} {k : Nat} (h : ¬ (sQ b vs q k).2 = 0) : sQ b vs q (k + 1) = sQ b vs q k := by
  rw [sQ]
  split
  · rfl
  · exact rG_err 1 h
theorem vQ_e1 {b : List Int} {i : Nat} {vs : List Int} {q : Int × Int} {k : Nat} (h : ¬ (vQ b i vs q k).2 = 0) : vQ b i vs q (k + 1) = vQ b i vs q k := by
  rw [vQ]
  split
  · exact (eF_err h).1
  · rfl
theorem sQ_er {b vs : List Int} {q : Int × Int} {k : Nat} (h : ¬ (sQ b vs q k).2 = 0) : ∀ j, sQ b vs q (k + j) = sQ b vs q k
  | 0 => rfl
  | j + 1 => by
    have ih := sQ_er h j
    rw [show k + (j + 1) = (k + j) + 1 by omega, sQ_e1 (by rw [ih]; exact h), ih]
theorem vQ_er {b : List Int} {i : Nat} {vs : List Int} {q : Int × Int} {k : Nat} (h : ¬ (vQ b i vs q k).2 = 0) : ∀ j, vQ b i vs q (k + j) = vQ b i vs q k
  | 0 => rfl
  | j + 1 => by
    have ih := vQ_er h j
    rw [show k + (j + 1) = (k + j) + 1 by omega, vQ_e1 (by rw [ih]; exact h), ih]
theorem sQ_err {b vs : List Int} {q : Int × Int} {k n : Nat} (hn : k ≤ n) (h : ¬ (sQ b vs q k).2 = 0) : sQ b vs q n = sQ b vs q k := by
  rw [show n = k + (n - k) by omega]
  exact sQ_er h _
theorem vQ_err {b : List Int} {i : Nat} {vs : List Int} {q : Int × Int} {k n : Nat} (hn : k ≤ n) (h : ¬ (vQ b i vs q k).2 = 0) : vQ b i vs q n = vQ b i vs q k := by
  rw [show n = k + (n - k) by omega]
  exact vQ_er h _
theorem set_mid {A B : List Int} {k : Nat} (h : A.length = k) (x y : Int) : (A ++ x :: B).set k y = A ++ y :: B := by
  subst h
  rw [List.set_append_right _ _ (Nat.le_refl _), Nat.sub_self]
  rfl
theorem set_rep {A : List Int} {k n : Nat} (h : A.length = k) (hk : k < n) (y : Int) : (A ++ List.replicate (n - k) 0).set k y = (A ++ [y]) ++ List.replicate (n - (k + 1)) 0 := by
  rw [show n - k = (n - (k + 1)) + 1 by omega, List.replicate_succ, set_mid h, List.append_assoc]
  rfl
theorem drop_at {vs : List Int} {k : Nat} (hk : k < vs.length) : vs.drop k = (vs[k]?.getD 0) :: vs.drop (k + 1) := by
  rw [List.drop_eq_getElem_cons hk, List.getElem?_eq_getElem hk]
  rfl
theorem set_drop {A vs : List Int} {k : Nat} (h : A.length = k) (hk : k < vs.length) (y : Int) : (A ++ vs.drop k).set k y = (A ++ [y]) ++ vs.drop (k + 1) := by
  rw [drop_at hk, set_mid h, List.append_assoc]
  rfl
theorem get_drop {A vs : List Int} {k : Nat} (h : A.length = k) (hk : k < vs.length) : (A ++ vs.drop k)[k]?.getD 0 = vs[k]?.getD 0 := by
  subst h
  rw [List.getElem?_append_right (Nat.le_refl _), Nat.sub_self, drop_at hk]
  rfl
theorem rep_end {A : List Int} {k n : Nat} (h : n ≤ k) : A ++ List.replicate (n - k) 0 = A := by
  rw [show n - k = 0 by omega]
  exact List.append_nil A
/-- huff.Get's parts. -/
def hgL (i : Nat) (b : List Int) (a : Int) : List Int := bVal i (fdN (bPlain i) (bE i) b a).toNat
def hgS (i : Nat) (b : List Int) (a : Int) : Int × Int := sQ b (hgL i b a) (fdP (bPlain i) (bE i) b a, 0) (hgL i b a).length
def hgG (i : Nat) (b : List Int) (a : Int) : List Int := sV b (hgL i b a) (fdP (bPlain i) (bE i) b a, 0) (hgL i b a).length
def hgQ (i : Nat) (b : List Int) (a : Int) : Int × Int := vQ b i (hgL i b a) (hgS i b a) (hgL i b a).length
def hgW (i : Nat) (b : List Int) (a : Int) : List Int := vV b i (hgL i b a) (hgG i b a) (hgS i b a) (hgL i b a).length
def hgE (i : Nat) (b : List Int) (a : Int) : Int := if fdE (bPlain i) (bMany i) b a = 0 then (if hSig i = true then 0 else (hgQ i b a).2) else fdE (bPlain i) (bMany i) b a
def hgP (i : Nat) (b : List Int) (a : Int) : Int := if hgE i b a = 0 then (if hSig i = true then fdP (bPlain i) (bE i) b a else (hgQ i b a).1) else 0
def hgV (i : Nat) (b : List Int) (a : Int) : List Int := if hgE i b a = 0 then (if hSig i = true then hgL i b a else hgW i b a) else []
theorem s_nz {b vs : List Int} {q : Int × Int} {k : Nat} (h : ¬ vs[k]?.getD 0 = 0) : sQ b vs q (k + 1) = rG b (sQ b vs q k) 1 ∧ sV b vs q (k + 1) = sV b vs q k ++ [rN b (sQ b vs q k) 1] := ⟨if_neg h, by rw [sV, sB, if_neg h]⟩
theorem s_z {b vs : List Int} {q : Int × Int} {k n : Nat} (hk : k < n) (h : vs[k]?.getD 0 = 0) : sQ b vs q (k + 1) = sQ b vs q k ∧ sV b vs q (k + 1) ++ List.replicate (n - (k + 1)) 0 = sV b vs q k ++ List.replicate (n - k) 0 := ⟨if_pos h, by rw [sV, sB, if_pos h, show n - k = (n - (k + 1)) + 1 by omega, List.replicate_succ, List.append_assoc]; rfl⟩
theorem set_rep' {A : List Int} {k n : Nat} (h : A.length = k) (hk : k < n) (y : Int) : (A ++ List.replicate (n - k) 0).set k y = A ++ y :: List.replicate (n - (k + 1)) 0 := by
  rw [set_rep h hk, List.append_assoc]; rfl
theorem set_drop' {A vs : List Int} {k : Nat} (h : A.length = k) (hk : k < vs.length) (y : Int) : (A ++ vs.drop k).set k y = A ++ y :: vs.drop (k + 1) := by
  rw [set_drop h hk, List.append_assoc]; rfl
theorem get_mid {A B : List Int} {k : Nat} (h : A.length = k) (x : Int) : (A ++ x :: B)[k]?.getD 0 = x := by
  subst h
  rw [List.getElem?_append_right (Nat.le_refl _), Nat.sub_self]
  rfl
theorem vV_nx {b : List Int} {i : Nat} {vs sg : List Int} {q : Int × Int} {k : Nat} {B : List Int} : vV b i vs sg q (k + 1) ++ B = vV b i vs sg q k ++ vB b i vs sg q k :: B := by
  rw [vV, List.append_assoc]; rfl
theorem vB_c1 {b : List Int} {i : Nat} {vs sg : List Int} {q : Int × Int} {k : Nat} (hc : vC i vs k) (hs : sg[k]?.getD 0 = 1) : vB b i vs sg q k = -(eV b (vQ b i vs q k)) := by unfold vB vX; rw [if_pos hs, if_pos hc]
theorem vB_c0 {b : List Int} {i : Nat} {vs sg : List Int} {q : Int × Int} {k : Nat} (hc : vC i vs k) (hs : ¬ sg[k]?.getD 0 = 1) : vB b i vs sg q k = eV b (vQ b i vs q k) := by unfold vB vX; rw [if_neg hs, if_pos hc]
theorem vB_n1 {b : List Int} {i : Nat} {vs sg : List Int} {q : Int × Int} {k : Nat} (hc : ¬ vC i vs k) (hs : sg[k]?.getD 0 = 1) : vB b i vs sg q k = -(vs[k]?.getD 0) := by unfold vB vX; rw [if_pos hs, if_neg hc]
theorem vB_n0 {b : List Int} {i : Nat} {vs sg : List Int} {q : Int × Int} {k : Nat} (hc : ¬ vC i vs k) (hs : ¬ sg[k]?.getD 0 = 1) : vB b i vs sg q k = vs[k]?.getD 0 := by unfold vB vX; rw [if_neg hs, if_neg hc]
theorem bVal_len (i e : Nat) : (bVal i e).length = bDim i := bDg_len i _ e
theorem bVal_u {i e k : Nat} (h1 : 1 ≤ i) (h2 : i ≤ 11) (hs : hSig i = false) (hk : k < bDim i) : 0 ≤ (bVal i e)[k]?.getD 0 ∧ (bVal i e)[k]?.getD 0 ≤ 16 := by
  have hF := hkF h1 h2
  obtain ⟨u1, u2, u3⟩ := hF.u hs
  have hk2 : k < (bVal i e).length := by rw [bVal_len]; exact hk
  have hm : (bVal i e)[k]?.getD 0 ∈ bVal i e := by
    rw [List.getElem?_eq_getElem hk2]
    exact List.getElem_mem hk2
  have := bDg_bd (bk_ok h1 (by omega)) _ _ _ hm
  by_cases h11 : i = 11
  · have := u3 h11; omega
  · have := u2 h11; omega
theorem hgQ_eq {i : Nat} {b : List Int} {a : Int} {V : List Int} {n : Nat} (hv : hgL i b a = V) (hl : V.length = n) : hgQ i b a = vQ b i V (sQ b V (fdP (bPlain i) (bE i) b a, 0) n) n ∧ hgW i b a = vV b i V (sV b V (fdP (bPlain i) (bE i) b a, 0) n) (sQ b V (fdP (bPlain i) (bE i) b a, 0) n) n := by
  unfold hgQ hgW hgS hgG
  rw [hv, hl]
  exact ⟨rfl, rfl⟩
theorem hg_f {i : Nat} {b : List Int} {a : Int} (h : ¬ fdE (bPlain i) (bMany i) b a = 0) : hgV i b a = [] ∧ hgP i b a = 0 ∧ hgE i b a = fdE (bPlain i) (bMany i) b a := by
  have e : hgE i b a = fdE (bPlain i) (bMany i) b a := if_neg h
  exact ⟨by rw [hgV, e, if_neg h], by rw [hgP, e, if_neg h], e⟩
theorem hg_s {i : Nat} {b : List Int} {a : Int} (h : fdE (bPlain i) (bMany i) b a = 0) (hs : hSig i = true) : hgV i b a = hgL i b a ∧ hgP i b a = fdP (bPlain i) (bE i) b a ∧ hgE i b a = 0 := by
  have e : hgE i b a = 0 := by rw [hgE, if_pos h, if_pos hs]
  exact ⟨by rw [hgV, e, if_pos rfl, if_pos hs], by rw [hgP, e, if_pos rfl, if_pos hs], e⟩
theorem hg_e {i : Nat} {b : List Int} {a : Int} (h : fdE (bPlain i) (bMany i) b a = 0) (hs : hSig i = false) (hq : ¬ (hgQ i b a).2 = 0) : hgV i b a = [] ∧ hgP i b a = 0 ∧ hgE i b a = (hgQ i b a).2 := by
  have e : hgE i b a = (hgQ i b a).2 := by rw [hgE, if_pos h, if_neg (by rw [hs]; simp)]
  exact ⟨by rw [hgV, e, if_neg hq], by rw [hgP, e, if_neg hq], e⟩
theorem hg_w {i : Nat} {b : List Int} {a : Int} (h : fdE (bPlain i) (bMany i) b a = 0) (hs : hSig i = false) (hq : (hgQ i b a).2 = 0) : hgV i b a = hgW i b a ∧ hgP i b a = (hgQ i b a).1 ∧ hgE i b a = 0 := by
  have e : hgE i b a = 0 := by rw [hgE, if_pos h, if_neg (by rw [hs]; simp), hq]
  exact ⟨by rw [hgV, e, if_pos rfl, if_neg (by rw [hs]; simp)], by rw [hgP, e, if_pos rfl, if_neg (by rw [hs]; simp)], e⟩
/-- The entry that was read. -/
theorem hg_ent {i : Nat} {b : List Int} {a : Int} (h1 : 1 ≤ i) (h2 : i ≤ 12) (hb : ∀ k : Nat, 0 ≤ b[k]?.getD 0 ∧ b[k]?.getD 0 ≤ 255) (h : fdE (bPlain i) (bMany i) b a = 0) : ∃ e : Nat, fdN (bPlain i) (bE i) b a = (e : Nat) ∧ e < bMany i ∧ 0 ≤ fdP (bPlain i) (bE i) b a ∧ fdP (bPlain i) (bE i) b a ≤ b.length := by
  have hE := bke h1 h2
  have hB := bk_ok h1 h2
  have hel := hE.elen
  have hmany := hB.many
  have h' : fdE (bPlain i) (bE i).length b a = 0 := by rw [hel]; exact h
  obtain ⟨r, hr, k1, k2, k3, k4, k5⟩ := read_code hB.plain hb (by omega) h'
  have hr2 : r < bMany i := by omega
  obtain ⟨c1, c2⟩ := hE.ea (r := r) (by first | exact hr2 | exact hr | (rw [hE.elen] at hr; exact hr))
  exact ⟨_, k1.trans c1, c2, by omega, by omega⟩

end Go.Proofs.Ytgheplondkoedaa

