import Derived.Test.YtgheplondkoedaaWf
import Derived.Test.YtgheplondkoedaaTyh
import Derived.Test.YtgheplondkoedaaHbits
import Derived.Test.YtgheplondkoedaaHbits2
import Derived.Test.YtgheplondkoedaaHsrt
import Derived.Test.YtgheplondkoedaaHbk
import Derived.Test.YtgheplondkoedaaHst
import Derived.Test.YtgheplondkoedaaHbk9
import Derived.Test.YtgheplondkoedaaSca
import Derived.Test.YtgheplondkoedaaSca2
import Derived.Test.YtgheplondkoedaaSca3
namespace Go.Proofs.Ytgheplondkoedaa
set_option linter.unusedVariables false
set_option linter.unusedSimpArgs false
set_option maxRecDepth 10000
open Go Go.Pv

open Go.RowKit
/-- These bits stand from p to q. -/
def Sd (b : List Int) (p q : Int) (L : List Int) : Prop := 0 ≤ p ∧ q = p + (L.length : Nat) ∧ q ≤ b.length ∧ (b.drop p.toNat).take L.length = L
theorem Sd.nil {b : List Int} {p : Int} (h : 0 ≤ p ∧ p ≤ b.length) : Sd b p p [] := ⟨h.1, by simp, h.2, by simp⟩
theorem Sd.app {b : List Int} {p q r : Int} {L1 L2 : List Int} (h1 : Sd b p q L1) (h2 : Sd b q r L2) : Sd b p r (L1 ++ L2) := by
  obtain ⟨a1, a2, a3, a4⟩ := h1
  obtain ⟨b1, b2, b3, b4⟩ := h2
  refine ⟨a1, by rw [List.length_append]; push_cast; omega, b3, ?_⟩
  rw [List.length_append, List.take_add, a4, List.drop_drop, show p.toNat + L1.length = q.toNat by omega, b4]
theorem Sd.get {b : List Int} (hb : ∀ y ∈ b, 0 ≤ y) {p : Int} {s : Nat} (hs : s ≤ 31) (h : getE b p s = 0) : Sd b p (getP b p s) (bitsOf (getN b p s).toNat s) ∧ 0 ≤ getN b p s ∧ getN b p s < ((2 ^ s : Nat) : Int) := by
  obtain ⟨h1, h2, h3, h4⟩ := getE_zero h
  obtain ⟨a, rfl⟩ := Int.eq_ofNat_of_zero_le h3
  obtain ⟨q1, q2, q3, q4⟩ := got_put (a := a) (s := s) hb hs (by omega) h
  refine ⟨⟨h3, ?_, ?_, ?_⟩, by rw [q1]; omega, by rw [q1]; exact Int.ofNat_lt.2 q3⟩
  · rw [q2, bitsOf_len]
  · rw [q2]; exact h4
  · rw [bitsOf_len, q1, Int.toNat_natCast, Int.toNat_natCast]
    exact q4.symm
/-- The bits of a band's step. -/
def bdL (a : Int × Int) (b n : Int) : List Int := if b = 0 then [] else if b = 13 ∧ a.2 < 0 then bitsOf n.toNat 9 else if b = 13 then stepL (n - a.2) else stepL (n - a.1)
theorem bdL_0 {a : Int × Int} {b n : Int} (h : b = 0) : bdL a b n = [] := if_pos h
theorem bdL_n {a : Int × Int} {b n : Int} (h : b = 13) (h2 : a.2 < 0) : bdL a b n = bitsOf n.toNat 9 := by unfold bdL; rw [if_neg (by omega), if_pos ⟨h, h2⟩]
theorem bdL_13 {a : Int × Int} {b n : Int} (h : b = 13) (h2 : ¬ a.2 < 0) : bdL a b n = stepL (n - a.2) := by unfold bdL; rw [if_neg (by omega), if_neg (fun hh => h2 hh.2), if_pos h]
theorem bdL_s {a : Int × Int} {b n : Int} (h0 : ¬ b = 0) (h : ¬ b = 13) : bdL a b n = stepL (n - a.1) := by unfold bdL; rw [if_neg h0, if_neg (fun hh => h hh.1), if_neg h]
theorem bdL_len {a : Int × Int} {b n : Int} (h : bdB a b n = true) : (bdL a b n).length ≤ 19 := by
  have h := bd_iff.1 h
  by_cases h0 : b = 0
  · rw [bdL_0 h0]; simp
  · by_cases h1 : b = 13
    · by_cases h2 : a.2 < 0
      · rw [bdL_n h1 h2, bitsOf_len]; omega
      · rw [bdL_13 h1 h2]
        exact (stepL_len (d := n - a.2) (by unfold St60; omega)).2
    · rw [bdL_s h0 h1]
      exact (stepL_len (d := n - a.1) (by unfold St60; omega)).2
def rwB (bs ns : List Int) (a : Int × Int) : Nat → List Int
  | 0 => []
  | k + 1 => rwB bs ns a k ++ bdL (aN bs ns a k) (bs[k]?.getD 0) (ns[k]?.getD 0)
def gB (l : List (List Sc)) (st : List (List Int)) (ga : Int) : Nat → List Int
  | 0 => []
  | k + 1 => gB l st ga k ++ rwB (RW l k) (st[k]?.getD []) (gN l st ga k) (RW l k).length
theorem rwB_len {bs ns : List Int} {a : Int × Int} : ∀ k, oN bs ns a k = true → (rwB bs ns a k).length ≤ 19 * k
  | 0, _ => by simp [rwB]
  | k + 1, h => by
    have h1 := oN_at h (Nat.lt_succ_self k)
    have h2 := rwB_len k (oN_mono (Nat.le_succ k) h)
    have h3 := bdL_len h1
    rw [rwB, List.length_append]
    omega
theorem gB_len {l : List (List Sc)} {st : List (List Int)} {ga : Int} (hm : ∀ k, (RW l k).length ≤ 40) : ∀ k, oG l st ga k = true → (gB l st ga k).length ≤ 760 * k
  | 0, _ => by simp [gB]
  | k + 1, h => by
    have h1 := (oG_at h (Nat.lt_succ_self k)).2
    have h2 := gB_len hm k (oG_mono (Nat.le_succ k) h)
    have h3 := rwB_len _ h1
    have := hm k
    rw [gB, List.length_append]
    omega
theorem RW_40 {l : List (List Sc)} (h : ∀ w ∈ l, (∀ x ∈ w, badS x = false) ∧ (w.map Sc.len).sum ≤ 40 ∧ w.length ≤ 40) (k : Nat) : (RW l k).length ≤ 40 := by
  by_cases hk : k < l.length
  · exact (RW_F hk h).1
  · unfold RW
    rw [List.getElem?_eq_none (by omega)]
    simp [bkR]
/-- A band's step, read. -/
def r1E (b : List Int) (a : Int × Int) (bk p : Int) : Int := if bk = 0 then 0 else if bk = 13 ∧ a.2 < 0 then getE b p 9 else if stE b p = 0 then (if tkB a bk ((if bk = 13 then a.2 else a.1) + stV b p) = true then 0 else 8) else stE b p
def r1N (b : List Int) (a : Int × Int) (bk p : Int) : Int := if bk = 0 then 0 else if bk = 13 ∧ a.2 < 0 then getN b p 9 else (if bk = 13 then a.2 else a.1) + stV b p
def r1P (b : List Int) (a : Int × Int) (bk p : Int) : Int := if bk = 0 then p else if bk = 13 ∧ a.2 < 0 then getP b p 9 else stP b p
def wasI (a : Int × Int) (bk : Int) : Int := if bk = 13 then a.2 else a.1
structure RS where
  vs : List Int
  p : Int
  a : Int × Int
def rwS (b bs : List Int) (p : Int) (a : Int × Int) : Nat → RS
  | 0 => ⟨[], p, a⟩
  | k + 1 => ⟨(rwS b bs p a k).vs ++ [r1N b (rwS b bs p a k).a (bs[k]?.getD 0) (rwS b bs p a k).p], r1P b (rwS b bs p a k).a (bs[k]?.getD 0) (rwS b bs p a k).p, bdN (rwS b bs p a k).a (bs[k]?.getD 0) (r1N b (rwS b bs p a k).a (bs[k]?.getD 0) (rwS b bs p a k).p)⟩
def rwE (b bs : List Int) (p : Int) (a : Int × Int) : Nat → Int
  | 0 => 0
  | k + 1 => if rwE b bs p a k = 0 then r1E b (rwS b bs p a k).a (bs[k]?.getD 0) (rwS b bs p a k).p else rwE b bs p a k
structure GS where
  rows : List (List Int)
  p : Int
  a : Int × Int
def gS (b : List Int) (l : List (List Sc)) (ga p : Int) : Nat → GS
  | 0 => ⟨[], p, (ga, -1)⟩
  | k + 1 => ⟨(gS b l ga p k).rows ++ [(rwS b (RW l k) (gS b l ga p k).p (gS b l ga p k).a (RW l k).length).vs], (rwS b (RW l k) (gS b l ga p k).p (gS b l ga p k).a (RW l k).length).p, (rwS b (RW l k) (gS b l ga p k).p (gS b l ga p k).a (RW l k).length).a⟩
def gE (b : List Int) (l : List (List Sc)) (ga p : Int) : Nat → Int
  | 0 => 0
  | k + 1 => if gE b l ga p k = 0 then rwE b (RW l k) (gS b l ga p k).p (gS b l ga p k).a (RW l k).length else gE b l ga p k
def sgR (b : List Int) (at_ ga : Int) (l : List (List Sc)) : List (List Int) × Int × Int :=
  if mayG ga l = true then (if getE b at_ 0 = 0 then (if gE b l ga at_ l.length = 0 then ((gS b l ga at_ l.length).rows, (gS b l ga at_ l.length).p, 0) else ([], 0, gE b l ga at_ l.length)) else ([], 0, getE b at_ 0)) else ([], 0, 8)
end Go.Proofs.Ytgheplondkoedaa

