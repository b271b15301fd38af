import Derived.Test.YtgheplondkoedaaWf
import Derived.Test.YtgheplondkoedaaTyh
import Derived.Test.YtgheplondkoedaaHbits
import Derived.Test.YtgheplondkoedaaHbits2
import Derived.Test.YtgheplondkoedaaHsrt
import Derived.Test.YtgheplondkoedaaHbk
import Derived.Test.YtgheplondkoedaaHst
import Derived.Test.YtgheplondkoedaaHbk9
import Derived.Test.YtgheplondkoedaaSca
import Derived.Test.YtgheplondkoedaaSca2
import Derived.Test.YtgheplondkoedaaSca3
namespace Go.Proofs.Ytgheplondkoedaa
set_option linter.unusedVariables false
set_option linter.unusedSimpArgs false
set_option maxRecDepth 10000
open Go Go.Pv

open Go.RowKit
theorem rkS_at {i r : Nat} (hr : r < 121) : rkS (((bEnt 12)[r]?.getD 0 : Nat) - 60 : Int) = r := by
  have hE := bke (i := 12) (by omega) (by omega)
  unfold rkS
  rw [show ((((bEnt 12)[r]?.getD 0 : Nat) : Int) - 60 + 60).toNat = (bEnt 12)[r]?.getD 0 by omega]
  exact hE.er r hr
theorem step_got {b : List Int} {at_ : Int} (hb : ∀ k : Nat, 0 ≤ b[k]?.getD 0 ∧ b[k]?.getD 0 ≤ 255) (h : stE b at_ = 0) : St60 (stV b at_) ∧ ∃ n : Nat, at_ = n ∧ stP b at_ = (n : Int) + ((stepL (stV b at_)).length : Nat) ∧ n + (stepL (stV b at_)).length ≤ b.length ∧ (b.drop n).take (stepL (stV b at_)).length = stepL (stV b at_) := by
  have hE := bke (i := 12) (by omega) (by omega)
  have h' : fdE 0 (bE 12).length b at_ = 0 := by rw [bE12]; exact h
  obtain ⟨r, hr, h1, h2, h3, h4, h5⟩ := read_code (p := 0) (es := bE 12) (by omega) hb (by rw [bE12]; omega) h'
  rw [bE12] at hr
  obtain ⟨a, c⟩ := hE.ea (r := r) hr
  have c' : (bEnt 12)[r]?.getD 0 < 121 := c
  have hv : stV b at_ = (((bEnt 12)[r]?.getD 0 : Nat) : Int) - 60 := by
    unfold stV
    rw [if_pos h, h1, a]
  have hs : stepL (stV b at_) = codeL 0 r := by
    unfold stepL
    rw [hv, rkS_at (i := 12) hr]
  obtain ⟨n, hn⟩ := Int.eq_ofNat_of_zero_le h2
  refine ⟨by rw [hv]; unfold St60; omega, n, hn, ?_, ?_, ?_⟩
  · rw [hs, ← hn]; exact h3
  · rw [hs]; omega
  · rw [hs]
    rw [hn, Int.toNat_natCast] at h5
    exact h5
/-- These bits stand from p to q. -/
def Sd (b : List Int) (p q : Int) (L : List Int) : Prop := 0 ≤ p ∧ q = p + (L.length : Nat) ∧ q ≤ b.length ∧ (b.drop p.toNat).take L.length = L
theorem Sd.nil {b : List Int} {p : Int} (h : 0 ≤ p ∧ p ≤ b.length) : Sd b p p [] := ⟨h.1, by simp, h.2, by simp⟩
theorem Sd.app {b : List Int} {p q r : Int} {L1 L2 : List Int} (h1 : Sd b p q L1) (h2 : Sd b q r L2) : Sd b p r (L1 ++ L2) := by
  obtain ⟨a1, a2, a3, a4⟩ := h1
  obtain ⟨b1, b2, b3, b4⟩ := h2
  refine ⟨a1, by rw [List.length_append]; push_cast; omega, b3, ?_⟩
  rw [List.length_append, List.take_add, a4, List.drop_drop, show p.toNat + L1.length = q.toNat by omega, b4]
theorem Sd.get {b : List Int} (hb : ∀ y ∈ b, 0 ≤ y) {p : Int} {s : Nat} (hs : s ≤ 31) (h : getE b p s = 0) : Sd b p (getP b p s) (bitsOf (getN b p s).toNat s) ∧ 0 ≤ getN b p s ∧ getN b p s < ((2 ^ s : Nat) : Int) := by
  obtain ⟨h1, h2, h3, h4⟩ := getE_zero h
  obtain ⟨a, rfl⟩ := Int.eq_ofNat_of_zero_le h3
  obtain ⟨q1, q2, q3, q4⟩ := got_put (a := a) (s := s) hb hs (by omega) h
  refine ⟨⟨h3, ?_, ?_, ?_⟩, by rw [q1]; omega, by rw [q1]; exact Int.ofNat_lt.2 q3⟩
  · rw [q2, bitsOf_len]
  · rw [q2]; exact h4
  · rw [bitsOf_len, q1, Int.toNat_natCast, Int.toNat_natCast]
    exact q4.symm
/-- The bits of a band's step. -/
def bdL (a : Int × Int) (b n : Int) : List Int := if b = 0 then [] else if b = 13 ∧ a.2 < 0 then bitsOf n.toNat 9 else if b = 13 then stepL (n - a.2) else stepL (n - a.1)
theorem bdL_0 {a : Int × Int} {b n : Int} (h : b = 0) : bdL a b n = [] := if_pos h
theorem bdL_n {a : Int × Int} {b n : Int} (h : b = 13) (h2 : a.2 < 0) : bdL a b n = bitsOf n.toNat 9 := by unfold bdL; rw [if_neg (by omega), if_pos ⟨h, h2⟩]
theorem bdL_13 {a : Int × Int} {b n : Int} (h : b = 13) (h2 : ¬ a.2 < 0) : bdL a b n = stepL (n - a.2) := by unfold bdL; rw [if_neg (by omega), if_neg (fun hh => h2 hh.2), if_pos h]
theorem bdL_s {a : Int × Int} {b n : Int} (h0 : ¬ b = 0) (h : ¬ b = 13) : bdL a b n = stepL (n - a.1) := by unfold bdL; rw [if_neg h0, if_neg (fun hh => h hh.1), if_neg h]
theorem bdL_len {a : Int × Int} {b n : Int} (h : bdB a b n = true) : (bdL a b n).length ≤ 19 := by
  have h := bd_iff.1 h
  by_cases h0 : b = 0
  · rw [bdL_0 h0]; simp
  · by_cases h1 : b = 13
    · by_cases h2 : a.2 < 0
      · rw [bdL_n h1 h2, bitsOf_len]; omega
      · rw [bdL_13 h1 h2]
        exact (stepL_len (d := n - a.2) (by unfold St60; omega)).2
    · rw [bdL_s h0 h1]
      exact (stepL_len (d := n - a.1) (by unfold St60; omega)).2
def rwB (bs ns : List Int) (a : Int × Int) : Nat → List Int
  | 0 => []
  | k + 1 => rwB bs ns a k ++ bdL (aN bs ns a k) (bs[k]?.getD 0) (ns[k]?.getD 0)
def gB (l : List (List Sc)) (st : List (List Int)) (ga : Int) : Nat → List Int
  | 0 => []
  | k + 1 => gB l st ga k ++ rwB (RW l k) (st[k]?.getD []) (gN l st ga k) (RW l k).length
theorem rwB_len {bs ns : List Int} {a : Int × Int} : ∀ k, oN bs ns a k = true → (rwB bs ns a k).length ≤ 19 * k
  | 0, _ => by simp [rwB]
  | k + 1, h => by
    have h1 := oN_at h (Nat.lt_succ_self k)
    have h2 := rwB_len k (oN_mono (Nat.le_succ k) h)
    have h3 := bdL_len h1
    rw [rwB, List.length_append]
    omega
theorem gB_len {l : List (List Sc)} {st : List (List Int)} {ga : Int} (hm : ∀ k, (RW l k).length ≤ 40) : ∀ k, oG l st ga k = true → (gB l st ga k).length ≤ 760 * k
  | 0, _ => by simp [gB]
  | k + 1, h => by
    have h1 := (oG_at h (Nat.lt_succ_self k)).2
    have h2 := gB_len hm k (oG_mono (Nat.le_succ k) h)
    have h3 := rwB_len _ h1
    have := hm k
    rw [gB, List.length_append]
    omega
theorem RW_40 {l : List (List Sc)} (h : ∀ w ∈ l, (∀ x ∈ w, badS x = false) ∧ (w.map Sc.len).sum ≤ 40 ∧ w.length ≤ 40) (k : Nat) : (RW l k).length ≤ 40 := by
  by_cases hk : k < l.length
  · exact (RW_F hk h).1
  · unfold RW
    rw [List.getElem?_eq_none (by omega)]
    simp [bkR]
/-- A band's step, read. -/
def r1E (b : List Int) (a : Int × Int) (bk p : Int) : Int := if bk = 0 then 0 else if bk = 13 ∧ a.2 < 0 then getE b p 9 else if stE b p = 0 then (if tkB a bk ((if bk = 13 then a.2 else a.1) + stV b p) = true then 0 else 8) else stE b p
def r1N (b : List Int) (a : Int × Int) (bk p : Int) : Int := if bk = 0 then 0 else if bk = 13 ∧ a.2 < 0 then getN b p 9 else (if bk = 13 then a.2 else a.1) + stV b p
def r1P (b : List Int) (a : Int × Int) (bk p : Int) : Int := if bk = 0 then p else if bk = 13 ∧ a.2 < 0 then getP b p 9 else stP b p
theorem r1_0 {b : List Int} {a : Int × Int} {bk p : Int} (h : bk = 0) : r1E b a bk p = 0 ∧ r1N b a bk p = 0 ∧ r1P b a bk p = p := ⟨if_pos h, if_pos h, if_pos h⟩
theorem r1_n {b : List Int} {a : Int × Int} {bk p : Int} (h : bk = 13) (h2 : a.2 < 0) : r1E b a bk p = getE b p 9 ∧ r1N b a bk p = getN b p 9 ∧ r1P b a bk p = getP b p 9 := by
  have h0 : ¬ bk = 0 := by omega
  unfold r1E r1N r1P
  rw [if_neg h0, if_neg h0, if_neg h0, if_pos ⟨h, h2⟩, if_pos ⟨h, h2⟩, if_pos ⟨h, h2⟩]
  exact ⟨rfl, rfl, rfl⟩
def wasI (a : Int × Int) (bk : Int) : Int := if bk = 13 then a.2 else a.1
theorem r1_s {b : List Int} {a : Int × Int} {bk p : Int} (h0 : ¬ bk = 0) (h : ¬ (bk = 13 ∧ a.2 < 0)) : r1E b a bk p = (if stE b p = 0 then (if tkB a bk (wasI a bk + stV b p) = true then 0 else 8) else stE b p) ∧ r1N b a bk p = wasI a bk + stV b p ∧ r1P b a bk p = stP b p := by
  unfold r1E r1N r1P wasI
  rw [if_neg h0, if_neg h0, if_neg h0, if_neg h, if_neg h, if_neg h]
  exact ⟨rfl, rfl, rfl⟩
theorem bdL_w {a : Int × Int} {bk n : Int} (h0 : ¬ bk = 0) (h : ¬ (bk = 13 ∧ a.2 < 0)) : bdL a bk n = stepL (n - wasI a bk) := by
  unfold bdL wasI
  rw [if_neg h0, if_neg h]
  split <;> rfl
theorem r1_ok {b : List Int} (hb : ∀ y ∈ b, 0 ≤ y ∧ y ≤ 255) {a : Int × Int} {bk p : Int} (hp : 0 ≤ p ∧ p ≤ b.length) (h : r1E b a bk p = 0) : bdB a bk (r1N b a bk p) = true ∧ Sd b p (r1P b a bk p) (bdL a bk (r1N b a bk p)) := by
  have hb0 : ∀ y ∈ b, 0 ≤ y := fun y hy => (hb y hy).1
  have hbk : ∀ k : Nat, 0 ≤ b[k]?.getD 0 ∧ b[k]?.getD 0 ≤ 255 := fun k => by
    cases hk : b[k]? with
    | none => exact ⟨by decide, by decide⟩
    | some v => exact hb v (List.mem_of_getElem? hk)
  by_cases h0 : bk = 0
  · obtain ⟨e1, e2, e3⟩ := r1_0 (b := b) (a := a) (p := p) h0
    rw [e2, e3, bdL_0 h0]
    exact ⟨bd_iff.2 (by omega), Sd.nil hp⟩
  · by_cases h1 : bk = 13 ∧ a.2 < 0
    · obtain ⟨e1, e2, e3⟩ := r1_n (b := b) (p := p) h1.1 h1.2
      rw [e1] at h
      obtain ⟨k1, k2, k3⟩ := Sd.get (s := 9) hb0 (by omega) h
      have k2' : 0 ≤ getN b p 9 := k2
      have k3' : getN b p 9 < 512 := k3
      rw [e2, e3, bdL_n h1.1 h1.2]
      exact ⟨bd_iff.2 (by omega), k1⟩
    · obtain ⟨e1, e2, e3⟩ := r1_s (b := b) (p := p) h0 h1
      rw [e1] at h
      split at h
      · rename_i hs
        split at h
        · rename_i ht
          obtain ⟨q1, n, q2, q3, q4, q5⟩ := step_got hbk hs
          rw [e2, e3, bdL_w h0 h1, show wasI a bk + stV b p - wasI a bk = stV b p by omega]
          refine ⟨by unfold bdB; rw [if_neg h0]; exact ht, by omega, by rw [q3, q2], by rw [q3]; omega, ?_⟩
          rw [show p.toNat = n by omega]
          exact q5
        · cases h
      · rename_i hs; exact absurd h hs
structure RS where
  vs : List Int
  p : Int
  a : Int × Int
def rwS (b bs : List Int) (p : Int) (a : Int × Int) : Nat → RS
  | 0 => ⟨[], p, a⟩
  | k + 1 => ⟨(rwS b bs p a k).vs ++ [r1N b (rwS b bs p a k).a (bs[k]?.getD 0) (rwS b bs p a k).p], r1P b (rwS b bs p a k).a (bs[k]?.getD 0) (rwS b bs p a k).p, bdN (rwS b bs p a k).a (bs[k]?.getD 0) (r1N b (rwS b bs p a k).a (bs[k]?.getD 0) (rwS b bs p a k).p)⟩
def rwE (b bs : List Int) (p : Int) (a : Int × Int) : Nat → Int
  | 0 => 0
  | k + 1 => if rwE b bs p a k = 0 then r1E b (rwS b bs p a k).a (bs[k]?.getD 0) (rwS b bs p a k).p else rwE b bs p a k
theorem rwS_len (b bs : List Int) (p : Int) (a : Int × Int) : ∀ k, (rwS b bs p a k).vs.length = k
  | 0 => rfl
  | k + 1 => by rw [rwS, List.length_append, rwS_len b bs p a k]; rfl
theorem rwE_mono {b bs : List Int} {p : Int} {a : Int × Int} {k : Nat} : ∀ {n : Nat}, k ≤ n → rwE b bs p a n = 0 → rwE b bs p a k = 0
  | 0, h, _ => by rw [show k = 0 by omega]; rfl
  | n + 1, h, h2 => by
    rcases (show k = n + 1 ∨ k ≤ n by omega) with rfl | h3
    · exact h2
    · rw [rwE] at h2
      split at h2
      · rename_i h4; exact rwE_mono h3 h4
      · rename_i h4; exact absurd h2 h4
theorem rwE_stop {b bs : List Int} {p : Int} {a : Int × Int} {k : Nat} (h : ¬ rwE b bs p a k = 0) : ∀ {n : Nat}, k ≤ n → rwE b bs p a n = rwE b bs p a k
  | 0, h2 => by rw [show k = 0 by omega]
  | n + 1, h2 => by
    rcases (show k = n + 1 ∨ k ≤ n by omega) with rfl | h3
    · rfl
    · have := rwE_stop h h3
      rw [rwE, this, if_neg h]
theorem rwE_at {b bs : List Int} {p : Int} {a : Int × Int} {k n : Nat} (h : rwE b bs p a n = 0) (hk : k < n) : r1E b (rwS b bs p a k).a (bs[k]?.getD 0) (rwS b bs p a k).p = 0 := by
  have h1 := rwE_mono (k := k) (by omega) h
  have h2 := rwE_mono (k := k + 1) (by omega) h
  rw [rwE, if_pos h1] at h2
  exact h2
theorem rwE_first {b bs : List Int} {p : Int} {a : Int × Int} {n : Nat} (h : ¬ rwE b bs p a n = 0) : ∃ J, J < n ∧ rwE b bs p a J = 0 ∧ r1E b (rwS b bs p a J).a (bs[J]?.getD 0) (rwS b bs p a J).p = rwE b bs p a n := by
  induction n with
  | zero => exact absurd rfl h
  | succ n ih =>
    by_cases h1 : rwE b bs p a n = 0
    · exact ⟨n, by omega, h1, by rw [rwE, if_pos h1]⟩
    · obtain ⟨J, a1, a2, a3⟩ := ih h1
      exact ⟨J, by omega, a2, by rw [a3, rwE, if_neg h1]⟩
theorem aN_app {bs vs : List Int} {a : Int × Int} (x : List Int) : ∀ {k : Nat}, k ≤ vs.length → aN bs (vs ++ x) a k = aN bs vs a k
  | 0, _ => rfl
  | k + 1, h => by rw [aN, aN, aN_app x (k := k) (by omega), List.getElem?_append_left (by omega)]
theorem oN_app {bs vs : List Int} {a : Int × Int} (x : List Int) : ∀ {k : Nat}, k ≤ vs.length → oN bs (vs ++ x) a k = oN bs vs a k
  | 0, _ => rfl
  | k + 1, h => by rw [oN, oN, oN_app x (k := k) (by omega), aN_app x (by omega), List.getElem?_append_left (by omega)]
theorem rwB_app {bs vs : List Int} {a : Int × Int} (x : List Int) : ∀ {k : Nat}, k ≤ vs.length → rwB bs (vs ++ x) a k = rwB bs vs a k
  | 0, _ => rfl
  | k + 1, h => by rw [rwB, rwB, rwB_app x (k := k) (by omega), aN_app x (by omega), List.getElem?_append_left (by omega)]
theorem rw_ok {b bs : List Int} (hb : ∀ y ∈ b, 0 ≤ y ∧ y ≤ 255) {a : Int × Int} {p : Int} (hp : 0 ≤ p ∧ p ≤ b.length) : ∀ k, rwE b bs p a k = 0 → oN bs (rwS b bs p a k).vs a k = true ∧ (rwS b bs p a k).a = aN bs (rwS b bs p a k).vs a k ∧ Sd b p (rwS b bs p a k).p (rwB bs (rwS b bs p a k).vs a k)
  | 0, _ => ⟨rfl, rfl, Sd.nil hp⟩
  | k + 1, h => by
    obtain ⟨i1, i2, i3⟩ := rw_ok hb hp k (rwE_mono (Nat.le_succ k) h)
    have hr := rwE_at h (Nat.lt_succ_self k)
    have hl := rwS_len b bs p a k
    obtain ⟨c1, c2⟩ := r1_ok hb ⟨by have := i3.1; have := i3.2.1; omega, i3.2.2.1⟩ hr
    rw [i2] at c1 c2
    rw [rwS, oN, aN, rwB]
    dsimp only
    rw [oN_app _ (by omega), aN_app _ (by omega), rwB_app _ (by omega), List.getElem?_append_right (by omega), hl, Nat.sub_self, List.getElem?_cons_zero, Option.getD_some, i2]
    exact ⟨by rw [i1, c1]; rfl, rfl, i3.app c2⟩
structure GS where
  rows : List (List Int)
  p : Int
  a : Int × Int
def gS (b : List Int) (l : List (List Sc)) (ga p : Int) : Nat → GS
  | 0 => ⟨[], p, (ga, -1)⟩
  | k + 1 => ⟨(gS b l ga p k).rows ++ [(rwS b (RW l k) (gS b l ga p k).p (gS b l ga p k).a (RW l k).length).vs], (rwS b (RW l k) (gS b l ga p k).p (gS b l ga p k).a (RW l k).length).p, (rwS b (RW l k) (gS b l ga p k).p (gS b l ga p k).a (RW l k).length).a⟩
def gE (b : List Int) (l : List (List Sc)) (ga p : Int) : Nat → Int
  | 0 => 0
  | k + 1 => if gE b l ga p k = 0 then rwE b (RW l k) (gS b l ga p k).p (gS b l ga p k).a (RW l k).length else gE b l ga p k
theorem gS_len (b : List Int) (l : List (List Sc)) (ga p : Int) : ∀ k, (gS b l ga p k).rows.length = k
  | 0 => rfl
  | k + 1 => by rw [gS, List.length_append, gS_len b l ga p k]; rfl
theorem gE_mono {b : List Int} {l : List (List Sc)} {ga p : Int} {k : Nat} : ∀ {n : Nat}, k ≤ n → gE b l ga p n = 0 → gE b l ga p k = 0
  | 0, h, _ => by rw [show k = 0 by omega]; rfl
  | n + 1, h, h2 => by
    rcases (show k = n + 1 ∨ k ≤ n by omega) with rfl | h3
    · exact h2
    · rw [gE] at h2
      split at h2
      · rename_i h4; exact gE_mono h3 h4
      · rename_i h4; exact absurd h2 h4
theorem gE_stop {b : List Int} {l : List (List Sc)} {ga p : Int} {k : Nat} (h : ¬ gE b l ga p k = 0) : ∀ {n : Nat}, k ≤ n → gE b l ga p n = gE b l ga p k
  | 0, h2 => by rw [show k = 0 by omega]
  | n + 1, h2 => by
    rcases (show k = n + 1 ∨ k ≤ n by omega) with rfl | h3
    · rfl
    · have := gE_stop h h3
      rw [gE, this, if_neg h]
theorem gE_at {b : List Int} {l : List (List Sc)} {ga p : Int} {k n : Nat} (h : gE b l ga p n = 0) (hk : k < n) : rwE b (RW l k) (gS b l ga p k).p (gS b l ga p k).a (RW l k).length = 0 := by
  have h1 := gE_mono (k := k) (by omega) h
  have h2 := gE_mono (k := k + 1) (by omega) h
  rw [gE, if_pos h1] at h2
  exact h2
theorem gN_app {l : List (List Sc)} {st : List (List Int)} {ga : Int} (x : List (List Int)) : ∀ {k : Nat}, k ≤ st.length → gN l (st ++ x) ga k = gN l st ga k
  | 0, _ => rfl
  | k + 1, h => by rw [gN, gN, gN_app x (k := k) (by omega), List.getElem?_append_left (by omega)]
theorem oG_app {l : List (List Sc)} {st : List (List Int)} {ga : Int} (x : List (List Int)) : ∀ {k : Nat}, k ≤ st.length → oG l (st ++ x) ga k = oG l st ga k
  | 0, _ => rfl
  | k + 1, h => by rw [oG, oG, oG_app x (k := k) (by omega), gN_app x (by omega), List.getElem?_append_left (by omega)]
theorem gB_app {l : List (List Sc)} {st : List (List Int)} {ga : Int} (x : List (List Int)) : ∀ {k : Nat}, k ≤ st.length → gB l (st ++ x) ga k = gB l st ga k
  | 0, _ => rfl
  | k + 1, h => by rw [gB, gB, gB_app x (k := k) (by omega), gN_app x (by omega), List.getElem?_append_left (by omega)]
theorem g_ok {b : List Int} {l : List (List Sc)} (hb : ∀ y ∈ b, 0 ≤ y ∧ y ≤ 255) {ga p : Int} (hp : 0 ≤ p ∧ p ≤ b.length) : ∀ k, gE b l ga p k = 0 → oG l (gS b l ga p k).rows ga k = true ∧ (gS b l ga p k).a = gN l (gS b l ga p k).rows ga k ∧ Sd b p (gS b l ga p k).p (gB l (gS b l ga p k).rows ga k)
  | 0, _ => ⟨rfl, rfl, Sd.nil hp⟩
  | k + 1, h => by
    obtain ⟨i1, i2, i3⟩ := g_ok hb hp k (gE_mono (Nat.le_succ k) h)
    have hr := gE_at h (Nat.lt_succ_self k)
    have hl := gS_len b l ga p k
    obtain ⟨c1, c2, c3⟩ := rw_ok hb ⟨by have := i3.1; have := i3.2.1; omega, i3.2.2.1⟩ _ hr
    have hvl := rwS_len b (RW l k) (gS b l ga p k).p (gS b l ga p k).a (RW l k).length
    rw [gS, oG, gN, gB]
    dsimp only
    rw [oG_app _ (by omega), gN_app _ (by omega), gB_app _ (by omega), List.getElem?_append_right (by omega), hl, Nat.sub_self, List.getElem?_cons_zero, Option.getD_some]
    rw [← i2]
    exact ⟨by rw [i1, decide_eq_true hvl, c1]; rfl, c2, i3.app c3⟩
def sgR (b : List Int) (at_ ga : Int) (l : List (List Sc)) : List (List Int) × Int × Int :=
  if mayG ga l = true then (if getE b at_ 0 = 0 then (if gE b l ga at_ l.length = 0 then ((gS b l ga at_ l.length).rows, (gS b l ga at_ l.length).p, 0) else ([], 0, gE b l ga at_ l.length)) else ([], 0, getE b at_ 0)) else ([], 0, 8)
theorem sgR_1 {b : List Int} {at_ ga : Int} {l : List (List Sc)} (h : mayG ga l = false) : sgR b at_ ga l = ([], 0, 8) := by unfold sgR; rw [if_neg (by rw [h]; simp)]
theorem sgR_2 {b : List Int} {at_ ga : Int} {l : List (List Sc)} (h : mayG ga l = true) (h2 : ¬ getE b at_ 0 = 0) : sgR b at_ ga l = ([], 0, getE b at_ 0) := by unfold sgR; rw [if_pos h, if_neg h2]
theorem sgR_3 {b : List Int} {at_ ga : Int} {l : List (List Sc)} (h : mayG ga l = true) (h2 : getE b at_ 0 = 0) (h3 : ¬ gE b l ga at_ l.length = 0) : sgR b at_ ga l = ([], 0, gE b l ga at_ l.length) := by unfold sgR; rw [if_pos h, if_pos h2, if_neg h3]
theorem sgR_4 {b : List Int} {at_ ga : Int} {l : List (List Sc)} (h : mayG ga l = true) (h2 : getE b at_ 0 = 0) (h3 : gE b l ga at_ l.length = 0) : sgR b at_ ga l = ((gS b l ga at_ l.length).rows, (gS b l ga at_ l.length).p, 0) := by unfold sgR; rw [if_pos h, if_pos h2, if_pos h3]
theorem sgR_no {b : List Int} {at_ ga : Int} {l : List (List Sc)} (h : ¬ (sgR b at_ ga l).2.2 = 0) : (sgR b at_ ga l).1 = [] ∧ (sgR b at_ ga l).2.1 = 0 := by
  cases h1 : mayG ga l with
  | false => rw [sgR_1 h1]; exact ⟨rfl, rfl⟩
  | true =>
    by_cases h2 : getE b at_ 0 = 0
    · by_cases h3 : gE b l ga at_ l.length = 0
      · rw [sgR_4 h1 h2 h3] at h; exact absurd rfl h
      · rw [sgR_3 h1 h2 h3]; exact ⟨rfl, rfl⟩
    · rw [sgR_2 h1 h2]; exact ⟨rfl, rfl⟩
theorem sgR_ok {b : List Int} (hb : ∀ y ∈ b, 0 ≤ y ∧ y ≤ 255) {at_ ga : Int} {l : List (List Sc)} (h : (sgR b at_ ga l).2.2 = 0) : chS ga l (sgR b at_ ga l).1 = 0 ∧ Sd b at_ (sgR b at_ ga l).2.1 (gB l (sgR b at_ ga l).1 ga l.length) ∧ (sgR b at_ ga l).1.length = l.length := by
  cases h1 : mayG ga l with
  | false => rw [sgR_1 h1] at h; cases h
  | true =>
    by_cases h2 : getE b at_ 0 = 0
    · by_cases h3 : gE b l ga at_ l.length = 0
      · rw [sgR_4 h1 h2 h3]
        obtain ⟨k1, k2, k3, k4⟩ := getE_zero h2
        obtain ⟨c1, c2, c3⟩ := g_ok hb ⟨k3, by omega⟩ _ h3
        have hl := gS_len b l ga at_ l.length
        exact ⟨chS_0 ⟨h1, hl.symm, c1⟩, c3, hl⟩
      · rw [sgR_3 h1 h2 h3] at h; exact absurd h h3
    · rw [sgR_2 h1 h2] at h; exact absurd h h2
end Go.Proofs.Ytgheplondkoedaa

