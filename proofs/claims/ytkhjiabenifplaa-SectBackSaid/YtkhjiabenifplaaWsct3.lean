import Derived.Test.YtkhjiabenifplaaWf
import Derived.Test.YtkhjiabenifplaaTyi
import Derived.Test.YtkhjiabenifplaaWband
import Derived.Test.YtkhjiabenifplaaWinfo
import Derived.Test.YtkhjiabenifplaaWbits
import Derived.Test.YtkhjiabenifplaaWrd
import Derived.Test.YtkhjiabenifplaaWrdq
import Derived.Test.YtkhjiabenifplaaWsct
import Derived.Test.YtkhjiabenifplaaWsct2
namespace Go.Proofs.Ytkhjiabenifplaa
set_option linter.unusedVariables false
set_option linter.unusedSimpArgs false
set_option maxRecDepth 10000
open Go Go.Pv

open Go.RowKit
/-- These bits stand from p to q. -/
def Sd (b : List Int) (p q : Int) (L : List Int) : Prop := 0 ≤ p ∧ q = p + (L.length : Nat) ∧ q ≤ b.length ∧ (b.drop p.toNat).take L.length = L
theorem Sd.nil {b : List Int} {p : Int} (h : 0 ≤ p ∧ p ≤ b.length) : Sd b p p [] := ⟨h.1, by simp, h.2, by simp⟩
theorem Sd.app {b : List Int} {p q r : Int} {L1 L2 : List Int} (h1 : Sd b p q L1) (h2 : Sd b q r L2) : Sd b p r (L1 ++ L2) := by
  obtain ⟨a1, a2, a3, a4⟩ := h1
  obtain ⟨b1, b2, b3, b4⟩ := h2
  refine ⟨a1, by rw [List.length_append]; push_cast; omega, b3, ?_⟩
  rw [List.length_append, List.take_add, a4, List.drop_drop, show p.toNat + L1.length = q.toNat by omega, b4]
theorem Sd.get {b : List Int} (hb : ∀ y ∈ b, 0 ≤ y) {p : Int} {s : Nat} (hs : s ≤ 31) (h : getE b p s = 0) : Sd b p (getP b p s) (bitsOf (getN b p s).toNat s) ∧ 0 ≤ getN b p s ∧ getN b p s < ((2 ^ s : Nat) : Int) := by
  obtain ⟨h1, h2, h3, h4⟩ := getE_zero h
  obtain ⟨a, rfl⟩ := Int.eq_ofNat_of_zero_le h3
  obtain ⟨q1, q2, q3, q4⟩ := got_put (a := a) (s := s) hb hs (by omega) h
  refine ⟨⟨h3, ?_, ?_, ?_⟩, by rw [q1]; omega, by rw [q1]; exact Int.ofNat_lt.2 q3⟩
  · rw [q2, bitsOf_len]
  · rw [q2]; exact h4
  · rw [bitsOf_len, q1, Int.toNat_natCast, Int.toNat_natCast]
    exact q4.symm
/-- These bits stand there. -/
theorem AtB.got {b : List Int} {p : Int} {n s : Nat} (h : AtB b p (bitsOf n s)) (hs : s ≤ 31) (hn : n < 2 ^ s) : getN b p (s : Nat) = n ∧ getP b p (s : Nat) = p + s ∧ getE b p (s : Nat) = 0 := by
  obtain ⟨xs, ys, rfl, rfl⟩ := h
  exact back_get xs ys n s xs.length rfl hs hn
theorem lfB_lt {s : Int} {n : Nat} (h : n < moS s) : lfB s n = bitsOf n (szS s) := by
  unfold lfB
  rw [Nat.div_eq_of_lt h, Nat.mod_eq_of_lt h]
  rfl
theorem mxB_front (s : Int) (k : Nat) : mxB s (k + 1) = bitsOf (moS s) (szS s) ++ mxB s k := by
  unfold mxB
  rw [List.replicate_succ, List.flatten_cons]
theorem lfB_ge {s : Int} {n : Nat} (h : moS s ≤ n) : lfB s n = bitsOf (moS s) (szS s) ++ lfB s (n - moS s) := by
  have hm : 0 < moS s := by rcases szS_F s with h | h <;> omega
  unfold lfB
  rw [show n / moS s = (n - moS s) / moS s + 1 by rw [Nat.div_eq_sub_div hm h], mxB_front, Nat.mod_eq_sub_mod h, List.append_assoc]
/-- A length's fields, read. -/
def lenR (b : List Int) (sz mo left : Int) : Nat → Int → Int → Int × Int × Int
  | 0, _, _ => (0, 0, 8)
  | f + 1, acc, p =>
    if getE b p sz = 0 then
      (if left < acc + getN b p sz then (0, 0, 8)
      else if getN b p sz = mo then lenR b sz mo left f (acc + getN b p sz) (getP b p sz)
      else (acc + getN b p sz, getP b p sz, 0))
    else (0, 0, getE b p sz)
theorem lenR_e {b : List Int} {sz mo left : Int} {f : Nat} {acc p : Int} (h : ¬ getE b p sz = 0) : lenR b sz mo left (f + 1) acc p = (0, 0, getE b p sz) := by rw [lenR, if_neg h]
theorem lenR_b {b : List Int} {sz mo left : Int} {f : Nat} {acc p : Int} (h : getE b p sz = 0) (h2 : left < acc + getN b p sz) : lenR b sz mo left (f + 1) acc p = (0, 0, 8) := by rw [lenR, if_pos h, if_pos h2]
theorem lenR_g {b : List Int} {sz mo left : Int} {f : Nat} {acc p : Int} (h : getE b p sz = 0) (h2 : acc + getN b p sz ≤ left) (h3 : getN b p sz = mo) : lenR b sz mo left (f + 1) acc p = lenR b sz mo left f (acc + getN b p sz) (getP b p sz) := by rw [lenR, if_pos h, if_neg (by omega), if_pos h3]
theorem lenR_d {b : List Int} {sz mo left : Int} {f : Nat} {acc p : Int} (h : getE b p sz = 0) (h2 : acc + getN b p sz ≤ left) (h3 : ¬ getN b p sz = mo) : lenR b sz mo left (f + 1) acc p = (acc + getN b p sz, getP b p sz, 0) := by rw [lenR, if_pos h, if_neg (by omega), if_neg h3]
theorem lenR_ok {b : List Int} (hb : ∀ y ∈ b, 0 ≤ y) {s left : Int} : ∀ {f : Nat} {acc p : Int}, 0 ≤ acc → (lenR b (szS s : Nat) (moS s : Nat) left f acc p).2.2 = 0 → ∃ n : Nat, (lenR b (szS s : Nat) (moS s : Nat) left f acc p).1 = acc + n ∧ acc + n ≤ left ∧ Sd b p (lenR b (szS s : Nat) (moS s : Nat) left f acc p).2.1 (lfB s n)
  | 0, _, _, _, h => by cases h
  | f + 1, acc, p, ha, h => by
    have hz := szS_F s
    by_cases h1 : getE b p (szS s : Nat) = 0
    · obtain ⟨k1, k2, k3⟩ := Sd.get hb (by omega) h1
      obtain ⟨n, hn⟩ := Int.eq_ofNat_of_zero_le k2
      have hlt : n ≤ moS s := by
        have hc : n < 2 ^ szS s := by rw [hn] at k3; exact Int.ofNat_lt.1 k3
        rcases hz with ⟨e1, e2⟩ | ⟨e1, e2⟩ <;> rw [e1] at hc <;> omega
      by_cases h2 : left < acc + getN b p (szS s : Nat)
      · rw [lenR_b h1 h2] at h; cases h
      · by_cases h3 : getN b p (szS s : Nat) = (moS s : Nat)
        · rw [lenR_g h1 (by omega) h3] at h ⊢
          obtain ⟨m, e1, e2, e3⟩ := lenR_ok hb (by omega) h
          have hnm : n = moS s := by omega
          refine ⟨moS s + m, ?_, ?_, ?_⟩
          · rw [e1, hn, hnm]; push_cast; omega
          · rw [hn, hnm] at e2; push_cast; omega
          · rw [lfB_ge (by omega), show moS s + m - moS s = m by omega]
            refine Sd.app ?_ e3
            rw [hn, hnm, Int.toNat_natCast] at k1
            exact k1
        · rw [lenR_d h1 (by omega) h3]
          refine ⟨n, by rw [hn], by omega, ?_⟩
          rw [lfB_lt (by omega)]
          rw [hn, Int.toNat_natCast] at k1
          exact k1
    · rw [lenR_e h1] at h
      exact absurd h h1
theorem lenR_back {b : List Int} {s left : Int} : ∀ {f n : Nat} {acc p : Int}, n < f → 0 ≤ acc → acc + n ≤ left → AtB b p (lfB s n) → lenR b (szS s : Nat) (moS s : Nat) left f acc p = (acc + n, p + ((lfB s n).length : Nat), 0)
  | 0, _, _, _, h, _, _, _ => by omega
  | f + 1, n, acc, p, h, h0, h1, h2 => by
    have hz := szS_F s
    by_cases hn : n < moS s
    · rw [lfB_lt hn] at h2 ⊢
      have hlt : n < 2 ^ szS s := by rcases hz with ⟨e1, e2⟩ | ⟨e1, e2⟩ <;> rw [e1] <;> omega
      obtain ⟨g1, g2, g3⟩ := h2.got (by omega) hlt
      rw [lenR_d g3 (by omega) (by omega), g1, g2, bitsOf_len]
    · rw [lfB_ge (by omega)] at h2 ⊢
      obtain ⟨h3, h4⟩ := h2.app
      have hlt : moS s < 2 ^ szS s := by rcases hz with ⟨e1, e2⟩ | ⟨e1, e2⟩ <;> rw [e1] <;> omega
      obtain ⟨g1, g2, g3⟩ := h3.got (by omega) hlt
      rw [bitsOf_len] at h4
      rw [lenR_g g3 (by omega) g1, g1, g2, lenR_back (n := n - moS s) (by omega) (by omega) (by omega) h4, List.length_append, bitsOf_len]
      refine Prod.ext ?_ (Prod.ext ?_ rfl)
      · show acc + (moS s : Nat) + ((n - moS s : Nat) : Int) = _
        omega
      · show p + (szS s : Nat) + _ = _
        push_cast
        omega
def oddB (k : Int) : Bool := decide (11 < k) && !decide (k = 13)
/-- A section, where so many bands are left: its book, its length, the place behind, the error. -/
def secR (b : List Int) (sz mo left p : Int) : Int × Int × Int × Int :=
  if getE b p 4 = 0 then
    (if oddB (getN b p 4) = true then (0, 0, 0, 8)
    else if (lenR b sz mo left 41 0 (getP b p 4)).2.2 = 0 then
      (if (lenR b sz mo left 41 0 (getP b p 4)).1 = 0 then (0, 0, 0, 8) else (getN b p 4, (lenR b sz mo left 41 0 (getP b p 4)).1, (lenR b sz mo left 41 0 (getP b p 4)).2.1, 0))
    else (0, 0, 0, (lenR b sz mo left 41 0 (getP b p 4)).2.2))
  else (0, 0, 0, getE b p 4)
theorem secR_1 {b : List Int} {sz mo left p : Int} (h : ¬ getE b p 4 = 0) : secR b sz mo left p = (0, 0, 0, getE b p 4) := by unfold secR; rw [if_neg h]
theorem secR_2 {b : List Int} {sz mo left p : Int} (h : getE b p 4 = 0) (h2 : oddB (getN b p 4) = true) : secR b sz mo left p = (0, 0, 0, 8) := by unfold secR; rw [if_pos h, if_pos h2]
theorem secR_3 {b : List Int} {sz mo left p : Int} (h : getE b p 4 = 0) (h2 : oddB (getN b p 4) = false) (h3 : ¬ (lenR b sz mo left 41 0 (getP b p 4)).2.2 = 0) : secR b sz mo left p = (0, 0, 0, (lenR b sz mo left 41 0 (getP b p 4)).2.2) := by unfold secR; rw [if_pos h, if_neg (by rw [h2]; simp), if_neg h3]
theorem secR_4 {b : List Int} {sz mo left p : Int} (h : getE b p 4 = 0) (h2 : oddB (getN b p 4) = false) (h3 : (lenR b sz mo left 41 0 (getP b p 4)).2.2 = 0) (h4 : (lenR b sz mo left 41 0 (getP b p 4)).1 = 0) : secR b sz mo left p = (0, 0, 0, 8) := by unfold secR; rw [if_pos h, if_neg (by rw [h2]; simp), if_pos h3, if_pos h4]
theorem secR_5 {b : List Int} {sz mo left p : Int} (h : getE b p 4 = 0) (h2 : oddB (getN b p 4) = false) (h3 : (lenR b sz mo left 41 0 (getP b p 4)).2.2 = 0) (h4 : ¬ (lenR b sz mo left 41 0 (getP b p 4)).1 = 0) : secR b sz mo left p = (getN b p 4, (lenR b sz mo left 41 0 (getP b p 4)).1, (lenR b sz mo left 41 0 (getP b p 4)).2.1, 0) := by unfold secR; rw [if_pos h, if_neg (by rw [h2]; simp), if_pos h3, if_neg h4]
theorem secR_ok {b : List Int} (hb : ∀ y ∈ b, 0 ≤ y) {s left p : Int} (hl : left ≤ 40) (h : (secR b (szS s : Nat) (moS s : Nat) left p).2.2.2 = 0) : ∃ x : Sc, secR b (szS s : Nat) (moS s : Nat) left p = (x.book, x.len, (secR b (szS s : Nat) (moS s : Nat) left p).2.2.1, 0) ∧ badS x = false ∧ x.len ≤ left ∧ Sd b p (secR b (szS s : Nat) (moS s : Nat) left p).2.2.1 (scB s x) := by
  by_cases h1 : getE b p 4 = 0
  · cases h2 : oddB (getN b p 4) with
    | true => rw [secR_2 h1 h2] at h; cases h
    | false =>
      by_cases h3 : (lenR b (szS s : Nat) (moS s : Nat) left 41 0 (getP b p 4)).2.2 = 0
      · by_cases h4 : (lenR b (szS s : Nat) (moS s : Nat) left 41 0 (getP b p 4)).1 = 0
        · rw [secR_4 h1 h2 h3 h4] at h; cases h
        · obtain ⟨n, e1, e2, e3⟩ := lenR_ok hb (by omega) h3
          obtain ⟨k1, k2, k3⟩ := Sd.get (s := 4) hb (by omega) h1
          rw [secR_5 h1 h2 h3 h4]
          have h2' := h2
          unfold oddB at h2'
          simp only [Bool.and_eq_false_iff, decide_eq_false_iff_not, Bool.not_eq_false', decide_eq_true_eq] at h2'
          have k2' : 0 ≤ getN b p 4 := k2
          refine ⟨⟨getN b p 4, n⟩, ?_, ?_, ?_, ?_⟩
          · refine Prod.ext rfl (Prod.ext ?_ rfl)
            show (lenR b (szS s : Nat) (moS s : Nat) left 41 0 (getP b p 4)).1 = (n : Int)
            rw [e1]
            omega
          · unfold badS
            simp
            omega
          · show (n : Int) ≤ left
            omega
          · unfold scB
            refine Sd.app k1 ?_
            rw [Int.toNat_natCast]
            exact e3
      · rw [secR_3 h1 h2 h3] at h
        exact absurd h h3
  · rw [secR_1 h1] at h
    exact absurd h h1
theorem secR_back {b : List Int} {s left p : Int} {x : Sc} (hx : badS x = false) (hl : x.len ≤ left) (h : AtB b p (scB s x)) : secR b (szS s : Nat) (moS s : Nat) left p = (x.book, x.len, p + ((scB s x).length : Nat), 0) := by
  have hbx := badS_no hx
  obtain ⟨n, hn⟩ := Int.eq_ofNat_of_zero_le (show 0 ≤ x.len by omega)
  obtain ⟨k, hk⟩ := Int.eq_ofNat_of_zero_le (show 0 ≤ x.book by omega)
  have hs : scB s x = bitsOf k 4 ++ lfB s n := by unfold scB; rw [hn, hk]; rfl
  rw [hs] at h ⊢
  obtain ⟨h1, h2⟩ := h.app
  obtain ⟨g1, g2, g3⟩ := h1.got (by omega) (by simp; omega)
  have g1' : getN b p 4 = k := g1
  have g2' : getP b p 4 = p + 4 := g2
  have g3' : getE b p 4 = 0 := g3
  rw [bitsOf_len] at h2
  have hle := lenR_back (left := left) (f := 41) (acc := 0) (by omega) (by omega) (by omega) h2
  have h2' : (p + ((4 : Nat) : Int)) = p + 4 := rfl
  rw [h2'] at hle
  have ho : oddB (getN b p 4) = false := by unfold oddB; rw [g1']; simp; omega
  have h0 : ((0 : Int) + (n : Nat)) = n := by omega
  rw [secR_5 g3' ho (by rw [g2', hle]) (by rw [g2', hle]; show ¬ (0 : Int) + (n : Nat) = 0; omega), g2', hle, g1', hk, hn, List.length_append, bitsOf_len]
  refine Prod.ext rfl (Prod.ext h0 (Prod.ext ?_ rfl))
  show p + 4 + _ = _
  push_cast
  omega
/-- A group's sections. -/
def grpR (b : List Int) (sz mo : Int) : Nat → Int → Int → List Sc → List Sc × Int × Int
  | 0, _, _, _ => ([], 0, 8)
  | f + 1, left, p, acc =>
    if left ≤ 0 then (acc, p, 0)
    else if (secR b sz mo left p).2.2.2 = 0 then grpR b sz mo f (left - (secR b sz mo left p).2.1) (secR b sz mo left p).2.2.1 (acc ++ [⟨(secR b sz mo left p).1, (secR b sz mo left p).2.1⟩])
    else ([], 0, (secR b sz mo left p).2.2.2)
theorem grpR_0 {b : List Int} {sz mo : Int} {f : Nat} {left p : Int} {acc : List Sc} (h : left ≤ 0) : grpR b sz mo (f + 1) left p acc = (acc, p, 0) := by rw [grpR, if_pos h]
theorem grpR_e {b : List Int} {sz mo : Int} {f : Nat} {left p : Int} {acc : List Sc} (h : 0 < left) (h2 : ¬ (secR b sz mo left p).2.2.2 = 0) : grpR b sz mo (f + 1) left p acc = ([], 0, (secR b sz mo left p).2.2.2) := by rw [grpR, if_neg (by omega), if_neg h2]
theorem grpR_s {b : List Int} {sz mo : Int} {f : Nat} {left p : Int} {acc : List Sc} (h : 0 < left) (h2 : (secR b sz mo left p).2.2.2 = 0) : grpR b sz mo (f + 1) left p acc = grpR b sz mo f (left - (secR b sz mo left p).2.1) (secR b sz mo left p).2.2.1 (acc ++ [⟨(secR b sz mo left p).1, (secR b sz mo left p).2.1⟩]) := by rw [grpR, if_neg (by omega), if_pos h2]
theorem grpR_ok {b : List Int} (hb : ∀ y ∈ b, 0 ≤ y) {s : Int} : ∀ {f : Nat} {left p : Int} {acc : List Sc}, 0 ≤ left ∧ left ≤ 40 → 0 ≤ p ∧ p ≤ b.length → (grpR b (szS s : Nat) (moS s : Nat) f left p acc).2.2 = 0 → ∃ w : List Sc, (grpR b (szS s : Nat) (moS s : Nat) f left p acc).1 = acc ++ w ∧ (∀ x ∈ w, badS x = false) ∧ (w.map Sc.len).sum = left ∧ Sd b p (grpR b (szS s : Nat) (moS s : Nat) f left p acc).2.1 (wB s w w.length)
  | 0, _, _, _, _, _, h => by cases h
  | f + 1, left, p, acc, hl, hp, h => by
    by_cases h1 : left ≤ 0
    · rw [grpR_0 h1]
      exact ⟨[], by simp, by simp, by simp; omega, Sd.nil hp⟩
    · by_cases h2 : (secR b (szS s : Nat) (moS s : Nat) left p).2.2.2 = 0
      · rw [grpR_s (by omega) h2] at h ⊢
        obtain ⟨x, e1, e2, e3, e4⟩ := secR_ok hb hl.2 h2
        have hx := badS_no e2
        have ea : (secR b (szS s : Nat) (moS s : Nat) left p).1 = x.book := by rw [e1]
        have eb : (secR b (szS s : Nat) (moS s : Nat) left p).2.1 = x.len := by rw [e1]
        rw [ea, eb] at h ⊢
        obtain ⟨w, c1, c2, c3, c4⟩ := grpR_ok hb ⟨by omega, by omega⟩ ⟨by have := e4.1; have := e4.2.1; omega, e4.2.2.1⟩ h
        refine ⟨x :: w, ?_, ?_, ?_, ?_⟩
        · rw [c1]; simp
        · intro y hy
          rcases List.mem_cons.1 hy with rfl | hy
          · exact e2
          · exact c2 y hy
        · rw [List.map_cons, List.sum_cons, c3]; omega
        · have : wB s (x :: w) (x :: w).length = scB s x ++ wB s w w.length := by unfold wB; simp
          rw [this]
          exact Sd.app e4 c4
      · rw [grpR_e (by omega) h2] at h
        exact absurd h h2
theorem grpR_back {b : List Int} {s : Int} : ∀ {f : Nat} {w : List Sc} {left p : Int} {acc : List Sc}, w.length < f → (∀ x ∈ w, badS x = false) → (w.map Sc.len).sum = left → AtB b p (wB s w w.length) → grpR b (szS s : Nat) (moS s : Nat) f left p acc = (acc ++ w, p + ((wB s w w.length).length : Nat), 0)
  | 0, _, _, _, _, h, _, _, _ => by omega
  | f + 1, [], left, p, acc, h, _, hs, _ => by
    rw [grpR_0 (by simp at hs; omega)]
    simp [wB]
  | f + 1, x :: w, left, p, acc, h, hx, hs, ha => by
    have e : wB s (x :: w) (x :: w).length = scB s x ++ wB s w w.length := by unfold wB; simp
    rw [e] at ha ⊢
    obtain ⟨h1, h2⟩ := ha.app
    have hbx := badS_no (hx x (by simp))
    have hw := len_sum w fun y hy => hx y (by simp [hy])
    rw [List.map_cons, List.sum_cons] at hs
    have hr := secR_back (left := left) (hx x (by simp)) (by omega) h1
    rw [grpR_s (by omega) (by rw [hr]), hr]
    simp only
    rw [grpR_back (w := w) (by simpa using h) (fun y hy => hx y (by simp [hy])) (by omega) h2, List.length_append]
    refine Prod.ext ?_ (Prod.ext ?_ rfl)
    · show acc ++ [x] ++ w = _
      simp
    · show p + _ + _ = _
      push_cast
      omega
/-- All groups' sections. -/
def allR (b : List Int) (sz mo m : Int) : Nat → Int → List (List Sc) → List (List Sc) × Int × Int
  | 0, p, acc => (acc, p, 0)
  | k + 1, p, acc =>
    if (grpR b sz mo 41 m p []).2.2 = 0 then allR b sz mo m k (grpR b sz mo 41 m p []).2.1 (acc ++ [(grpR b sz mo 41 m p []).1])
    else ([], 0, (grpR b sz mo 41 m p []).2.2)
theorem allR_e {b : List Int} {sz mo m : Int} {k : Nat} {p : Int} {acc : List (List Sc)} (h : ¬ (grpR b sz mo 41 m p []).2.2 = 0) : allR b sz mo m (k + 1) p acc = ([], 0, (grpR b sz mo 41 m p []).2.2) := by rw [allR, if_neg h]
theorem allR_s {b : List Int} {sz mo m : Int} {k : Nat} {p : Int} {acc : List (List Sc)} (h : (grpR b sz mo 41 m p []).2.2 = 0) : allR b sz mo m (k + 1) p acc = allR b sz mo m k (grpR b sz mo 41 m p []).2.1 (acc ++ [(grpR b sz mo 41 m p []).1]) := by rw [allR, if_pos h]
theorem aB_cons (s : Int) (w : List Sc) (l : List (List Sc)) : aB s (w :: l) (w :: l).length = wB s w w.length ++ aB s l l.length := by unfold aB; simp
theorem allR_ok {b : List Int} (hb : ∀ y ∈ b, 0 ≤ y) {s m : Int} (hm : 0 ≤ m ∧ m ≤ 40) : ∀ {k : Nat} {p : Int} {acc : List (List Sc)}, 0 ≤ p ∧ p ≤ b.length → (allR b (szS s : Nat) (moS s : Nat) m k p acc).2.2 = 0 → ∃ l : List (List Sc), (allR b (szS s : Nat) (moS s : Nat) m k p acc).1 = acc ++ l ∧ l.length = k ∧ (∀ w ∈ l, secL m w = true) ∧ Sd b p (allR b (szS s : Nat) (moS s : Nat) m k p acc).2.1 (aB s l l.length)
  | 0, p, acc, hp, _ => ⟨[], by simp [allR], rfl, by simp, Sd.nil hp⟩
  | k + 1, p, acc, hp, h => by
    by_cases h1 : (grpR b (szS s : Nat) (moS s : Nat) 41 m p []).2.2 = 0
    · rw [allR_s h1] at h ⊢
      obtain ⟨w, c1, c2, c3, c4⟩ := grpR_ok hb hm hp h1
      rw [List.nil_append] at c1
      rw [c1] at h ⊢
      obtain ⟨l, d1, d2, d3, d4⟩ := allR_ok hb hm ⟨by have := c4.1; have := c4.2.1; omega, c4.2.2.1⟩ h
      refine ⟨w :: l, by rw [d1]; simp, by simp [d2], fun y hy => ?_, ?_⟩
      · rcases List.mem_cons.1 hy with rfl | hy
        · exact secL_mk (k := y.length) (by omega) (Nat.le_refl _) (fun j hj => c2 _ (mem_at (w := y) hj)) (by unfold lenS; rw [List.take_length]; exact c3)
        · exact d3 y hy
      · rw [aB_cons]
        exact Sd.app c4 d4
    · rw [allR_e h1] at h
      exact absurd h h1
theorem allR_back {b : List Int} {s m : Int} : ∀ {l : List (List Sc)} {p : Int} {acc : List (List Sc)}, (∀ w ∈ l, secL m w = true) → AtB b p (aB s l l.length) → allR b (szS s : Nat) (moS s : Nat) m l.length p acc = (acc ++ l, p + ((aB s l l.length).length : Nat), 0)
  | [], p, acc, _, _ => by simp [allR, aB]
  | w :: l, p, acc, h, ha => by
    rw [aB_cons] at ha ⊢
    obtain ⟨h1, h2⟩ := ha.app
    obtain ⟨k1, k2, k3⟩ := secL_true (h w (by simp))
    have hr := grpR_back (f := 41) (acc := []) (by omega) k1 k2 h1
    rw [List.nil_append] at hr
    rw [List.length_cons, allR_s (by rw [hr]), hr]
    simp only
    rw [allR_back (fun y hy => h y (by simp [hy])) h2, List.length_append]
    refine Prod.ext (by simp) (Prod.ext ?_ rfl)
    show p + _ + _ = _
    push_cast
    omega
def sgetX (b : List Int) (a s sh m : Int) (g : List Int) : List (List Sc) × Int × Int :=
  if winE s sh m g = 0 then (if getE b a 0 = 0 then allR b (szS s : Nat) (moS s : Nat) m g.length a [] else ([], 0, getE b a 0)) else ([], 0, winE s sh m g)
theorem sgetX_1 {b : List Int} {a s sh m : Int} {g : List Int} (h : ¬ winE s sh m g = 0) : sgetX b a s sh m g = ([], 0, winE s sh m g) := by unfold sgetX; rw [if_neg h]
theorem sgetX_2 {b : List Int} {a s sh m : Int} {g : List Int} (h : winE s sh m g = 0) (h2 : ¬ getE b a 0 = 0) : sgetX b a s sh m g = ([], 0, getE b a 0) := by unfold sgetX; rw [if_pos h, if_neg h2]
theorem sgetX_3 {b : List Int} {a s sh m : Int} {g : List Int} (h : winE s sh m g = 0) (h2 : getE b a 0 = 0) : sgetX b a s sh m g = allR b (szS s : Nat) (moS s : Nat) m g.length a [] := by unfold sgetX; rw [if_pos h, if_pos h2]
theorem allR_no {b : List Int} {sz mo m : Int} : ∀ {k : Nat} {p : Int} {acc : List (List Sc)}, ¬ (allR b sz mo m k p acc).2.2 = 0 → (allR b sz mo m k p acc).1 = [] ∧ (allR b sz mo m k p acc).2.1 = 0
  | 0, _, _, h => absurd rfl h
  | k + 1, p, acc, h => by
    by_cases h1 : (grpR b sz mo 41 m p []).2.2 = 0
    · rw [allR_s h1] at h ⊢
      exact allR_no h
    · rw [allR_e h1]
      exact ⟨rfl, rfl⟩
/-- What is got may be, and is put as these bits. -/
theorem sgetX_ok {b : List Int} (hb : ∀ y ∈ b, 0 ≤ y) {a s sh m : Int} {g : List Int} (h : (sgetX b a s sh m g).2.2 = 0) : chX s sh m g (sgetX b a s sh m g).1 = 0 ∧ Sd b a (sgetX b a s sh m g).2.1 (aB s (sgetX b a s sh m g).1 (sgetX b a s sh m g).1.length) := by
  by_cases h1 : winE s sh m g = 0
  · by_cases h2 : getE b a 0 = 0
    · rw [sgetX_3 h1 h2] at h ⊢
      obtain ⟨k1, k2, k3, k4⟩ := getE_zero h2
      obtain ⟨l, c1, c2, c3, c4⟩ := allR_ok hb (win_m h1) ⟨k3, by omega⟩ h
      rw [List.nil_append] at c1
      rw [c1]
      refine ⟨chX_yes h1 (secB_all (k := l.length) c2 (Nat.le_refl _) fun i hi => c3 _ (mem_at hi)), c4⟩
    · rw [sgetX_2 h1 h2] at h
      exact absurd h h2
  · rw [sgetX_1 h1] at h
    exact absurd h h1
theorem sgetX_no {b : List Int} {a s sh m : Int} {g : List Int} (h : ¬ (sgetX b a s sh m g).2.2 = 0) : (sgetX b a s sh m g).1 = [] ∧ (sgetX b a s sh m g).2.1 = 0 := by
  by_cases h1 : winE s sh m g = 0
  · by_cases h2 : getE b a 0 = 0
    · rw [sgetX_3 h1 h2] at h ⊢
      exact allR_no h
    · rw [sgetX_2 h1 h2]; exact ⟨rfl, rfl⟩
  · rw [sgetX_1 h1]; exact ⟨rfl, rfl⟩
theorem sgetX_back {s sh m : Int} {g : List Int} {l : List (List Sc)} {be : List Int} (h : chX s sh m g l = 0) : sgetX (aB s l l.length ++ be) 0 s sh m g = (l, (((aB s l l.length).length : Nat) : Int), 0) := by
  obtain ⟨h1, h2, h3, h4⟩ := chX_ok h
  have he : getE (aB s l l.length ++ be) 0 0 = 0 := by
    have := getE_ok (b := aB s l l.length ++ be) (a := 0) (s := 0) (by omega) (by omega) (by simp)
    exact this
  unfold secB at h2
  rw [Bool.and_eq_true, decide_eq_true_eq, List.all_eq_true] at h2
  have ha0 : AtB (aB s l l.length ++ be) 0 (aB s l l.length) := ⟨[], be, by simp, rfl⟩
  rw [sgetX_3 h1 he, ← h2.1, allR_back h2.2 ha0]
  simp

theorem len_next {b : List Int} {sz mo left acc q : Int} {e : Nat} {X : Int × Int × Int} (h : left - acc < e ∧ lenR b sz mo left e acc q = X) (h0 : acc ≤ left) (he : getE b q sz = 0) (hl : acc + getN b q sz ≤ left) (hmo : 0 < mo) : (getN b q sz = mo → left - (acc + getN b q sz) < ((e - 1 : Nat) : Int) ∧ lenR b sz mo left (e - 1) (acc + getN b q sz) (getP b q sz) = X) ∧ (¬ getN b q sz = mo → X = (acc + getN b q sz, getP b q sz, 0)) := by
  obtain ⟨h1, h2⟩ := h
  obtain ⟨f, rfl⟩ : ∃ f, e = f + 1 := ⟨e - 1, by omega⟩
  refine ⟨fun hn => ⟨by omega, ?_⟩, fun hn => ?_⟩
  · rw [← h2, lenR_g he hl hn]; rfl
  · rw [← h2, lenR_d he hl hn]
theorem len_err {b : List Int} {sz mo left acc q : Int} {e : Nat} {X : Int × Int × Int} (h : left - acc < e ∧ lenR b sz mo left e acc q = X) (h0 : acc ≤ left) (he : ¬ getE b q sz = 0) : X = (0, 0, getE b q sz) := by
  obtain ⟨h1, h2⟩ := h
  obtain ⟨f, rfl⟩ : ∃ f, e = f + 1 := ⟨e - 1, by omega⟩
  rw [← h2, lenR_e he]
theorem len_big {b : List Int} {sz mo left acc q : Int} {e : Nat} {X : Int × Int × Int} (h : left - acc < e ∧ lenR b sz mo left e acc q = X) (h0 : acc ≤ left) (he : getE b q sz = 0) (hl : left < acc + getN b q sz) : X = (0, 0, 8) := by
  obtain ⟨h1, h2⟩ := h
  obtain ⟨f, rfl⟩ : ∃ f, e = f + 1 := ⟨e - 1, by omega⟩
  rw [← h2, lenR_b he hl]
theorem grp_next {b : List Int} {sz mo left m p p1 bk n q : Int} {f : Nat} {w : List Sc} (hG : grpR b sz mo f left p w = grpR b sz mo 41 m p1 []) (hl : 0 < left) (hf : left < f) (h : secR b sz mo left p = (bk, n, q, 0)) : grpR b sz mo (f - 1) (left - n) q (w ++ [⟨bk, n⟩]) = grpR b sz mo 41 m p1 [] := by
  obtain ⟨f, rfl⟩ : ∃ e, f = e + 1 := ⟨f - 1, by omega⟩
  rw [← hG, grpR_s hl (by rw [h]), h]
  rfl
theorem all_next {b : List Int} {sz mo left m p p1 a : Int} {f k G : Nat} {w : List Sc} {L : List (List Sc)} (hA : allR b sz mo m (G - k) p1 L = allR b sz mo m G a []) (hk : k < G) (hG : grpR b sz mo f left p w = grpR b sz mo 41 m p1 []) (hl : left ≤ 0) (hf : left < f ∧ 0 ≤ left) : allR b sz mo m (G - (k + 1)) p (L ++ [w]) = allR b sz mo m G a [] := by
  obtain ⟨f, rfl⟩ : ∃ e, f = e + 1 := ⟨f - 1, by omega⟩
  obtain ⟨n, hn⟩ : ∃ n, G - k = n + 1 := ⟨G - k - 1, by omega⟩
  rw [grpR_0 hl] at hG
  rw [← hA, hn, allR_s (by rw [← hG]), ← hG, show G - (k + 1) = n by omega]
theorem get_fail {b : List Int} {left m p p1 a s sh : Int} {g : List Int} {f k : Nat} {w : List Sc} {L : List (List Sc)} (hR : sgetX b a s sh m g = allR b (szS s : Nat) (moS s : Nat) m g.length a []) (hA : allR b (szS s : Nat) (moS s : Nat) m (g.length - k) p1 L = allR b (szS s : Nat) (moS s : Nat) m g.length a []) (hk : k < g.length) (hG : grpR b (szS s : Nat) (moS s : Nat) f left p w = grpR b (szS s : Nat) (moS s : Nat) 41 m p1 []) (hl : 0 < left) (hf : left < f) {x y z : Int} {e : Int} (hs : secR b (szS s : Nat) (moS s : Nat) left p = (x, y, z, e)) (he : ¬ e = 0) : sgetX b a s sh m g = ([], 0, e) := by
  obtain ⟨f, rfl⟩ : ∃ e, f = e + 1 := ⟨f - 1, by omega⟩
  obtain ⟨n, hn⟩ : ∃ n, g.length - k = n + 1 := ⟨g.length - k - 1, by omega⟩
  rw [grpR_e hl (by rw [hs]; exact he), hs] at hG
  rw [hR, ← hA, hn, allR_e (by rw [← hG]; exact he), ← hG]
theorem get_done {b : List Int} {m p1 a s sh : Int} {g : List Int} {k : Nat} {L : List (List Sc)} (hR : sgetX b a s sh m g = allR b (szS s : Nat) (moS s : Nat) m g.length a []) (hA : allR b (szS s : Nat) (moS s : Nat) m (g.length - k) p1 L = allR b (szS s : Nat) (moS s : Nat) m g.length a []) (hk : g.length ≤ k) : sgetX b a s sh m g = (L, p1, 0) := by
  rw [hR, ← hA, show g.length - k = 0 by omega]
  rfl
theorem getP_in {b : List Int} {p z : Int} (hb : b.length ≤ 1000000) : 0 ≤ getP b p z ∧ getP b p z ≤ 1000000 := by
  unfold getP
  split
  · rename_i h
    obtain ⟨h1, h2, h3, h4⟩ := getE_zero h
    omega
  · omega
theorem getP_0 {b : List Int} {p : Int} (h : getE b p 0 = 0) : getP b p 0 = p := by unfold getP; rw [if_pos h]; omega
theorem getN_31 {b : List Int} (hp : ∀ y ∈ b, 0 ≤ y) {p : Int} {s : Int} : 0 ≤ getN b p (szS s : Nat) ∧ getN b p (szS s : Nat) ≤ (moS s : Nat) := by
  have h := getN_bd (p := p) (s := szS s) hp
  rcases szS_F s with ⟨e1, e2⟩ | ⟨e1, e2⟩ <;> rw [e1] at h ⊢ <;> rw [e2] <;> omega
theorem getN_15 {b : List Int} (hp : ∀ y ∈ b, 0 ≤ y) {p : Int} : 0 ≤ getN b p 4 ∧ getN b p 4 ≤ 15 := by
  have h : 0 ≤ getN b p 4 ∧ getN b p 4 < ((2 ^ 4 : Nat) : Int) := getN_bd (p := p) (s := 4) hp
  omega
theorem odd_y {k : Int} (h : 11 < k ∧ ¬ k = 13) : oddB k = true := by unfold oddB; simp; exact h
theorem odd_n {k : Int} (h : 11 < k → k = 13) : oddB k = false := by unfold oddB; simp; omega
theorem odd_inv {k : Int} (h : oddB k = false) : 11 < k → k = 13 := by
  unfold oddB at h
  simp at h
  exact h
theorem right_n {n left k : Int} (hk : 0 ≤ k) (ho : 11 < k → k = 13) (hl : 0 ≤ n ∧ n ≤ left) (h : rightS ⟨k, n⟩ left = false) : n = 0 := by
  unfold rightS at h
  simp at h
  omega
theorem right_y {n left k : Int} (h : rightS ⟨k, n⟩ left = true) : ¬ n = 0 := by
  unfold rightS at h
  simp at h
  omega

set_option maxHeartbeats 8000000 in
theorem sget_ok (bs : List Int) (a s sh m : Int) (g : List Int) (hx : g.length ≤ 1000000) (hb : bs.length ≤ 1000000) (hp : ∀ y ∈ bs, 0 ≤ y ∧ y ≤ 255) (ha : -9223372036854775808 ≤ a ∧ a ≤ 9223372036854775807) : PCall Try.prog 32 [.ro (.ints .u8 bs), .int .i64 a, .agg [.int .u8 s, .int .u8 sh, .int .i64 m, .ro (.ints .i64 g)]] (.tup [.ro (.rows 1 ((sgetX bs a s sh m g).1.map fun w => [.ro (.rows 2 (w.map Sc.row))])), .int .i64 (sgetX bs a s sh m g).2.1, .int .i64 (sgetX bs a s sh m g).2.2]) := by
  have hp0 : ∀ y ∈ bs, 0 ≤ y := fun y hy => (hp y hy).1
  have hp255 : ∀ k : Nat, 0 ≤ bs[k]?.getD 0 ∧ bs[k]?.getD 0 ≤ 255 := fun k => by
    cases hk : bs[k]? with
    | none => exact ⟨by decide, by decide⟩
    | some v => exact hp v (List.mem_of_getElem? hk)
  refine pcall_body ty_ok Try.func32 rfl (by rfl) (by simp) ?_
  rw [Try.ntmps32]
  refine swp_seq fun K1 hK1 => ?_
  refine swp_region ty_ok ?_
  try simp (maxSteps := 1000000) [runs, gd, step1, need, evu, un, opnds, opv, ev, cst, cst1, cstL, getT, getH, putT, onL, nxt, argT, cellsOf, PV.one, thn, inBlk, jmp, fldP, ldP, ldC, live, Cells.len, Cells.get, Cells.w, sug, ldv, bin, eqF, eq1, ops2, sh2, binv, Tk.agg, stC, apC, rdS, apS, cpC, cpS, mvL, zp, argsP, idx, fillP, toInts, chunks, mkC, ixS, ixA, oidx, slP, sl0, slA, optL, List.append, mxF, bltn, frzA, frz, frzL, frz1, pur1, Cells.pur, PV.scal, scal1, runD, rdO, PV.ids, id1, zids, ety, Eff.on, cnd, minb, and1b, ifmax, ifmin, mxv, sugI, strv, w0, w1, w2, wm1]
  repeat' (first | apply And.intro | intro _)
  any_goals (first | (refine hK1 _ ?_; clear hK1) | (first | omega | (simp only [IntKind.wrap_i64] at *; omega) | (simp_all; done) | (simp_all; omega)))
  refine swp_seq fun K2 hK2 => ?_
  refine swp_seq fun K3 hK3 => ?_
  refine swp_region ty_ok ?_
  refine runs_cut 1 fun R4 hR4 => ?_
  try simp (maxSteps := 1000000) [runs, gd, step1, need, evu, un, opnds, opv, ev, cst, cst1, cstL, getT, getH, putT, onL, nxt, argT, cellsOf, PV.one, thn, inBlk, jmp, fldP, ldP, ldC, live, Cells.len, Cells.get, Cells.w, sug, ldv, bin, eqF, eq1, ops2, sh2, binv, Tk.agg, stC, apC, rdS, apS, cpC, cpS, mvL, zp, argsP, idx, fillP, toInts, chunks, mkC, ixS, ixA, oidx, slP, sl0, slA, optL, List.append, mxF, bltn, frzA, frz, frzL, frz1, pur1, Cells.pur, PV.scal, scal1, runD, rdO, PV.ids, id1, zids, ety, Eff.on, cnd, minb, and1b, ifmax, ifmin, mxv, sugI, strv, w0, w1, w2, wm1, List.take_succ_cons, List.take_zero, List.drop_succ_cons, List.drop_zero]
  repeat' (first | apply And.intro | intro _)
  any_goals (first | (refine hR4 _ ?_; clear hR4) | (first | omega | (simp only [IntKind.wrap_i64] at *; omega) | (simp_all; done) | (simp_all; omega)))
  refine runs_cut 1 fun R5 hR5 => ?_
  try simp (maxSteps := 1000000) [runs, gd, step1, need, evu, un, opnds, opv, ev, cst, cst1, cstL, getT, getH, putT, onL, nxt, argT, cellsOf, PV.one, thn, inBlk, jmp, fldP, ldP, ldC, live, Cells.len, Cells.get, Cells.w, sug, ldv, bin, eqF, eq1, ops2, sh2, binv, Tk.agg, stC, apC, rdS, apS, cpC, cpS, mvL, zp, argsP, idx, fillP, toInts, chunks, mkC, ixS, ixA, oidx, slP, sl0, slA, optL, List.append, mxF, bltn, frzA, frz, frzL, frz1, pur1, Cells.pur, PV.scal, scal1, runD, rdO, PV.ids, id1, zids, ety, Eff.on, cnd, minb, and1b, ifmax, ifmin, mxv, sugI, strv, w0, w1, w2, wm1, List.take_succ_cons, List.take_zero, List.drop_succ_cons, List.drop_zero]
  refine .inl ⟨_, info_Windows_ok s sh m g (by omega), ?_⟩
  try simp (maxSteps := 1000000) [runs, gd, step1, need, evu, un, opnds, opv, ev, cst, cst1, cstL, getT, getH, putT, onL, nxt, argT, cellsOf, PV.one, thn, inBlk, jmp, fldP, ldP, ldC, live, Cells.len, Cells.get, Cells.w, sug, ldv, bin, eqF, eq1, ops2, sh2, binv, Tk.agg, stC, apC, rdS, apS, cpC, cpS, mvL, zp, argsP, idx, fillP, toInts, chunks, mkC, ixS, ixA, oidx, slP, sl0, slA, optL, List.append, mxF, bltn, frzA, frz, frzL, frz1, pur1, Cells.pur, PV.scal, scal1, runD, rdO, PV.ids, id1, zids, ety, Eff.on, cnd, minb, and1b, ifmax, ifmin, mxv, sugI, strv, w0, w1, w2, wm1]
  repeat' (first | apply And.intro | intro _)
  any_goals (first | (refine hR5 _ ?_; clear hR5) | (first | omega | (simp only [IntKind.wrap_i64] at *; omega) | (simp_all; done) | (simp_all; omega)))
  try simp (maxSteps := 1000000) [runs, gd, step1, need, evu, un, opnds, opv, ev, cst, cst1, cstL, getT, getH, putT, onL, nxt, argT, cellsOf, PV.one, thn, inBlk, jmp, fldP, ldP, ldC, live, Cells.len, Cells.get, Cells.w, sug, ldv, bin, eqF, eq1, ops2, sh2, binv, Tk.agg, stC, apC, rdS, apS, cpC, cpS, mvL, zp, argsP, idx, fillP, toInts, chunks, mkC, ixS, ixA, oidx, slP, sl0, slA, optL, List.append, mxF, bltn, frzA, frz, frzL, frz1, pur1, Cells.pur, PV.scal, scal1, runD, rdO, PV.ids, id1, zids, ety, Eff.on, cnd, minb, and1b, ifmax, ifmin, mxv, sugI, strv, w0, w1, w2, wm1, List.take_succ_cons, List.take_zero, List.drop_succ_cons, List.drop_zero]
  repeat' (first | apply And.intro | intro _)
  any_goals (first | (refine hK3 _ ?_; clear hK3) | (first | omega | (simp only [IntKind.wrap_i64] at *; omega) | (simp_all; done) | (simp_all; omega)))
  refine swp_seq fun K6 hK6 => ?_
  refine swp_region ty_ok ?_
  try simp (maxSteps := 1000000) [runs, gd, step1, need, evu, un, opnds, opv, ev, cst, cst1, cstL, getT, getH, putT, onL, nxt, argT, cellsOf, PV.one, thn, inBlk, jmp, fldP, ldP, ldC, live, Cells.len, Cells.get, Cells.w, sug, ldv, bin, eqF, eq1, ops2, sh2, binv, Tk.agg, stC, apC, rdS, apS, cpC, cpS, mvL, zp, argsP, idx, fillP, toInts, chunks, mkC, ixS, ixA, oidx, slP, sl0, slA, optL, List.append, mxF, bltn, frzA, frz, frzL, frz1, pur1, Cells.pur, PV.scal, scal1, runD, rdO, PV.ids, id1, zids, ety, Eff.on, cnd, minb, and1b, ifmax, ifmin, mxv, sugI, strv, w0, w1, w2, wm1]
  repeat' (first | apply And.intro | intro _)
  any_goals (first | (refine hK6 _ ?_; clear hK6) | (first | omega | (simp only [IntKind.wrap_i64] at *; omega) | (simp_all; done) | (simp_all; omega)))
  refine swp_if fun C7 hC7 => ?_
  try simp (maxSteps := 1000000) [runs, gd, step1, need, evu, un, opnds, opv, ev, cst, cst1, cstL, getT, getH, putT, onL, nxt, argT, cellsOf, PV.one, thn, inBlk, jmp, fldP, ldP, ldC, live, Cells.len, Cells.get, Cells.w, sug, ldv, bin, eqF, eq1, ops2, sh2, binv, Tk.agg, stC, apC, rdS, apS, cpC, cpS, mvL, zp, argsP, idx, fillP, toInts, chunks, mkC, ixS, ixA, oidx, slP, sl0, slA, optL, List.append, mxF, bltn, frzA, frz, frzL, frz1, pur1, Cells.pur, PV.scal, scal1, runD, rdO, PV.ids, id1, zids, ety, Eff.on, cnd, minb, and1b, ifmax, ifmin, mxv, sugI, strv, w0, w1, w2, wm1]
  refine hC7 _ (fun hc7 => ?_) (fun hc7 => ?_)
  · clear hC7
    try simp at hc7
    refine swp_seq fun K8 hK8 => ?_
    refine swp_region ty_ok ?_
    try simp (maxSteps := 1000000) [runs, gd, step1, need, evu, un, opnds, opv, ev, cst, cst1, cstL, getT, getH, putT, onL, nxt, argT, cellsOf, PV.one, thn, inBlk, jmp, fldP, ldP, ldC, live, Cells.len, Cells.get, Cells.w, sug, ldv, bin, eqF, eq1, ops2, sh2, binv, Tk.agg, stC, apC, rdS, apS, cpC, cpS, mvL, zp, argsP, idx, fillP, toInts, chunks, mkC, ixS, ixA, oidx, slP, sl0, slA, optL, List.append, mxF, bltn, frzA, frz, frzL, frz1, pur1, Cells.pur, PV.scal, scal1, runD, rdO, PV.ids, id1, zids, ety, Eff.on, cnd, minb, and1b, ifmax, ifmin, mxv, sugI, strv, w0, w1, w2, wm1]
    repeat' (first | apply And.intro | intro _)
    any_goals (first | (refine hK8 _ ?_; clear hK8) | (first | omega | (simp only [IntKind.wrap_i64] at *; omega) | (simp_all; done) | (simp_all; omega)))
    refine swp_ret ?_
    simp [runs, gd, step1, need, evu, un, opnds, opv, ev, cst, cst1, cstL, getT, getH, putT, onL, nxt, argT, cellsOf, PV.one, thn, inBlk, jmp, fldP, ldP, ldC, live, Cells.len, Cells.get, Cells.w, sug, ldv, bin, eqF, eq1, ops2, sh2, binv, Tk.agg, stC, apC, rdS, apS, cpC, cpS, mvL, zp, argsP, idx, fillP, toInts, chunks, mkC, ixS, ixA, oidx, slP, sl0, slA, optL, List.append, mxF, bltn, frzA, frz, frzL, frz1, pur1, Cells.pur, PV.scal, scal1, runD, rdO, PV.ids, id1, zids, ety, Eff.on, cnd, minb, and1b, ifmax, ifmin, mxv, sugI, strv, w0, w1, w2, wm1, fnPost, Try.results32, resP, tupOf]
    rw [sgetX_1 hc7]; exact ⟨rfl, rfl, rfl⟩
  · clear hC7
    try simp at hc7
    refine swp_skip ?_
    try simp only [thn, inBlk]
    refine hK2 _ ?_; clear hK2
    refine swp_seq fun K9 hK9 => ?_
    refine swp_seq fun K10 hK10 => ?_
    have hz0 : winE s sh m g = 0 := hc7
    have hm40 := win_m hz0
    refine swp_region ty_ok ?_
    refine runs_cut 2 fun R11 hR11 => ?_
    try simp (maxSteps := 1000000) [runs, gd, step1, need, evu, un, opnds, opv, ev, cst, cst1, cstL, getT, getH, putT, onL, nxt, argT, cellsOf, PV.one, thn, inBlk, jmp, fldP, ldP, ldC, live, Cells.len, Cells.get, Cells.w, sug, ldv, bin, eqF, eq1, ops2, sh2, binv, Tk.agg, stC, apC, rdS, apS, cpC, cpS, mvL, zp, argsP, idx, fillP, toInts, chunks, mkC, ixS, ixA, oidx, slP, sl0, slA, optL, List.append, mxF, bltn, frzA, frz, frzL, frz1, pur1, Cells.pur, PV.scal, scal1, runD, rdO, PV.ids, id1, zids, ety, Eff.on, cnd, minb, and1b, ifmax, ifmin, mxv, sugI, strv, w0, w1, w2, wm1, List.take_succ_cons, List.take_zero, List.drop_succ_cons, List.drop_zero]
    repeat' (first | apply And.intro | intro _)
    any_goals (first | (refine hR11 _ ?_; clear hR11) | (first | omega | (simp only [IntKind.wrap_i64] at *; omega) | (simp_all; done) | (simp_all; omega)))
    refine runs_cut 1 fun R12 hR12 => ?_
    try simp (maxSteps := 1000000) [runs, gd, step1, need, evu, un, opnds, opv, ev, cst, cst1, cstL, getT, getH, putT, onL, nxt, argT, cellsOf, PV.one, thn, inBlk, jmp, fldP, ldP, ldC, live, Cells.len, Cells.get, Cells.w, sug, ldv, bin, eqF, eq1, ops2, sh2, binv, Tk.agg, stC, apC, rdS, apS, cpC, cpS, mvL, zp, argsP, idx, fillP, toInts, chunks, mkC, ixS, ixA, oidx, slP, sl0, slA, optL, List.append, mxF, bltn, frzA, frz, frzL, frz1, pur1, Cells.pur, PV.scal, scal1, runD, rdO, PV.ids, id1, zids, ety, Eff.on, cnd, minb, and1b, ifmax, ifmin, mxv, sugI, strv, w0, w1, w2, wm1, List.take_succ_cons, List.take_zero, List.drop_succ_cons, List.drop_zero]
    refine .inl ⟨_, get_ok bs a 0 (by omega) hp255 (by omega), ?_⟩
    try simp (maxSteps := 1000000) [runs, gd, step1, need, evu, un, opnds, opv, ev, cst, cst1, cstL, getT, getH, putT, onL, nxt, argT, cellsOf, PV.one, thn, inBlk, jmp, fldP, ldP, ldC, live, Cells.len, Cells.get, Cells.w, sug, ldv, bin, eqF, eq1, ops2, sh2, binv, Tk.agg, stC, apC, rdS, apS, cpC, cpS, mvL, zp, argsP, idx, fillP, toInts, chunks, mkC, ixS, ixA, oidx, slP, sl0, slA, optL, List.append, mxF, bltn, frzA, frz, frzL, frz1, pur1, Cells.pur, PV.scal, scal1, runD, rdO, PV.ids, id1, zids, ety, Eff.on, cnd, minb, and1b, ifmax, ifmin, mxv, sugI, strv, w0, w1, w2, wm1]
    repeat' (first | apply And.intro | intro _)
    any_goals (first | (refine hR12 _ ?_; clear hR12) | (first | omega | (simp only [IntKind.wrap_i64] at *; omega) | (simp_all; done) | (simp_all; omega)))
    try simp (maxSteps := 1000000) [runs, gd, step1, need, evu, un, opnds, opv, ev, cst, cst1, cstL, getT, getH, putT, onL, nxt, argT, cellsOf, PV.one, thn, inBlk, jmp, fldP, ldP, ldC, live, Cells.len, Cells.get, Cells.w, sug, ldv, bin, eqF, eq1, ops2, sh2, binv, Tk.agg, stC, apC, rdS, apS, cpC, cpS, mvL, zp, argsP, idx, fillP, toInts, chunks, mkC, ixS, ixA, oidx, slP, sl0, slA, optL, List.append, mxF, bltn, frzA, frz, frzL, frz1, pur1, Cells.pur, PV.scal, scal1, runD, rdO, PV.ids, id1, zids, ety, Eff.on, cnd, minb, and1b, ifmax, ifmin, mxv, sugI, strv, w0, w1, w2, wm1, List.take_succ_cons, List.take_zero, List.drop_succ_cons, List.drop_zero]
    repeat' (first | apply And.intro | intro _)
    any_goals (first | (refine hK10 _ ?_; clear hK10) | (first | omega | (simp only [IntKind.wrap_i64] at *; omega) | (simp_all; done) | (simp_all; omega)))
    refine swp_seq fun K13 hK13 => ?_
    refine swp_region ty_ok ?_
    try simp (maxSteps := 1000000) [runs, gd, step1, need, evu, un, opnds, opv, ev, cst, cst1, cstL, getT, getH, putT, onL, nxt, argT, cellsOf, PV.one, thn, inBlk, jmp, fldP, ldP, ldC, live, Cells.len, Cells.get, Cells.w, sug, ldv, bin, eqF, eq1, ops2, sh2, binv, Tk.agg, stC, apC, rdS, apS, cpC, cpS, mvL, zp, argsP, idx, fillP, toInts, chunks, mkC, ixS, ixA, oidx, slP, sl0, slA, optL, List.append, mxF, bltn, frzA, frz, frzL, frz1, pur1, Cells.pur, PV.scal, scal1, runD, rdO, PV.ids, id1, zids, ety, Eff.on, cnd, minb, and1b, ifmax, ifmin, mxv, sugI, strv, w0, w1, w2, wm1]
    repeat' (first | apply And.intro | intro _)
    any_goals (first | (refine hK13 _ ?_; clear hK13) | (first | omega | (simp only [IntKind.wrap_i64] at *; omega) | (simp_all; done) | (simp_all; omega)))
    refine swp_if fun C14 hC14 => ?_
    try simp (maxSteps := 1000000) [runs, gd, step1, need, evu, un, opnds, opv, ev, cst, cst1, cstL, getT, getH, putT, onL, nxt, argT, cellsOf, PV.one, thn, inBlk, jmp, fldP, ldP, ldC, live, Cells.len, Cells.get, Cells.w, sug, ldv, bin, eqF, eq1, ops2, sh2, binv, Tk.agg, stC, apC, rdS, apS, cpC, cpS, mvL, zp, argsP, idx, fillP, toInts, chunks, mkC, ixS, ixA, oidx, slP, sl0, slA, optL, List.append, mxF, bltn, frzA, frz, frzL, frz1, pur1, Cells.pur, PV.scal, scal1, runD, rdO, PV.ids, id1, zids, ety, Eff.on, cnd, minb, and1b, ifmax, ifmin, mxv, sugI, strv, w0, w1, w2, wm1]
    refine hC14 _ (fun hc14 => ?_) (fun hc14 => ?_)
    · clear hC14
      try simp at hc14
      refine swp_seq fun K15 hK15 => ?_
      refine swp_region ty_ok ?_
      try simp (maxSteps := 1000000) [runs, gd, step1, need, evu, un, opnds, opv, ev, cst, cst1, cstL, getT, getH, putT, onL, nxt, argT, cellsOf, PV.one, thn, inBlk, jmp, fldP, ldP, ldC, live, Cells.len, Cells.get, Cells.w, sug, ldv, bin, eqF, eq1, ops2, sh2, binv, Tk.agg, stC, apC, rdS, apS, cpC, cpS, mvL, zp, argsP, idx, fillP, toInts, chunks, mkC, ixS, ixA, oidx, slP, sl0, slA, optL, List.append, mxF, bltn, frzA, frz, frzL, frz1, pur1, Cells.pur, PV.scal, scal1, runD, rdO, PV.ids, id1, zids, ety, Eff.on, cnd, minb, and1b, ifmax, ifmin, mxv, sugI, strv, w0, w1, w2, wm1]
      repeat' (first | apply And.intro | intro _)
      any_goals (first | (refine hK15 _ ?_; clear hK15) | (first | omega | (simp only [IntKind.wrap_i64] at *; omega) | (simp_all; done) | (simp_all; omega)))
      refine swp_ret ?_
      simp [runs, gd, step1, need, evu, un, opnds, opv, ev, cst, cst1, cstL, getT, getH, putT, onL, nxt, argT, cellsOf, PV.one, thn, inBlk, jmp, fldP, ldP, ldC, live, Cells.len, Cells.get, Cells.w, sug, ldv, bin, eqF, eq1, ops2, sh2, binv, Tk.agg, stC, apC, rdS, apS, cpC, cpS, mvL, zp, argsP, idx, fillP, toInts, chunks, mkC, ixS, ixA, oidx, slP, sl0, slA, optL, List.append, mxF, bltn, frzA, frz, frzL, frz1, pur1, Cells.pur, PV.scal, scal1, runD, rdO, PV.ids, id1, zids, ety, Eff.on, cnd, minb, and1b, ifmax, ifmin, mxv, sugI, strv, w0, w1, w2, wm1, fnPost, Try.results32, resP, tupOf]
      rw [sgetX_2 hz0 hc14]; exact ⟨rfl, rfl, rfl⟩
    · clear hC14
      try simp at hc14
      refine swp_skip ?_
      try simp only [thn, inBlk]
      refine hK9 _ ?_; clear hK9
      refine swp_seq fun K16 hK16 => ?_
      have he0 : getE bs a 0 = 0 := hc14
      have hP0 := getP_0 he0
      obtain ⟨ge1, ge2, ge3, ge4⟩ := getE_zero he0
      have hR := sgetX_3 hz0 he0
      refine swp_region ty_ok ?_
      refine runs_cut 1 fun R17 hR17 => ?_
      try simp (maxSteps := 1000000) [runs, gd, step1, need, evu, un, opnds, opv, ev, cst, cst1, cstL, getT, getH, putT, onL, nxt, argT, cellsOf, PV.one, thn, inBlk, jmp, fldP, ldP, ldC, live, Cells.len, Cells.get, Cells.w, sug, ldv, bin, eqF, eq1, ops2, sh2, binv, Tk.agg, stC, apC, rdS, apS, cpC, cpS, mvL, zp, argsP, idx, fillP, toInts, chunks, mkC, ixS, ixA, oidx, slP, sl0, slA, optL, List.append, mxF, bltn, frzA, frz, frzL, frz1, pur1, Cells.pur, PV.scal, scal1, runD, rdO, PV.ids, id1, zids, ety, Eff.on, cnd, minb, and1b, ifmax, ifmin, mxv, sugI, strv, w0, w1, w2, wm1, hP0, List.take_succ_cons, List.take_zero, List.drop_succ_cons, List.drop_zero]
      repeat' (first | apply And.intro | intro _)
      any_goals (first | (refine hR17 _ ?_; clear hR17) | (first | omega | (simp only [IntKind.wrap_i64] at *; omega) | (simp_all; done) | (simp_all; omega)))
      refine runs_cut 1 fun R18 hR18 => ?_
      try simp (maxSteps := 1000000) [runs, gd, step1, need, evu, un, opnds, opv, ev, cst, cst1, cstL, getT, getH, putT, onL, nxt, argT, cellsOf, PV.one, thn, inBlk, jmp, fldP, ldP, ldC, live, Cells.len, Cells.get, Cells.w, sug, ldv, bin, eqF, eq1, ops2, sh2, binv, Tk.agg, stC, apC, rdS, apS, cpC, cpS, mvL, zp, argsP, idx, fillP, toInts, chunks, mkC, ixS, ixA, oidx, slP, sl0, slA, optL, List.append, mxF, bltn, frzA, frz, frzL, frz1, pur1, Cells.pur, PV.scal, scal1, runD, rdO, PV.ids, id1, zids, ety, Eff.on, cnd, minb, and1b, ifmax, ifmin, mxv, sugI, strv, w0, w1, w2, wm1, hP0, List.take_succ_cons, List.take_zero, List.drop_succ_cons, List.drop_zero]
      refine .inl ⟨_, field_ok s sh m g, ?_⟩
      try simp (maxSteps := 1000000) [runs, gd, step1, need, evu, un, opnds, opv, ev, cst, cst1, cstL, getT, getH, putT, onL, nxt, argT, cellsOf, PV.one, thn, inBlk, jmp, fldP, ldP, ldC, live, Cells.len, Cells.get, Cells.w, sug, ldv, bin, eqF, eq1, ops2, sh2, binv, Tk.agg, stC, apC, rdS, apS, cpC, cpS, mvL, zp, argsP, idx, fillP, toInts, chunks, mkC, ixS, ixA, oidx, slP, sl0, slA, optL, List.append, mxF, bltn, frzA, frz, frzL, frz1, pur1, Cells.pur, PV.scal, scal1, runD, rdO, PV.ids, id1, zids, ety, Eff.on, cnd, minb, and1b, ifmax, ifmin, mxv, sugI, strv, w0, w1, w2, wm1, hP0]
      repeat' (first | apply And.intro | intro _)
      any_goals (first | (refine hR18 _ ?_; clear hR18) | (first | omega | (simp only [IntKind.wrap_i64] at *; omega) | (simp_all; done) | (simp_all; omega)))
      try simp (maxSteps := 1000000) [runs, gd, step1, need, evu, un, opnds, opv, ev, cst, cst1, cstL, getT, getH, putT, onL, nxt, argT, cellsOf, PV.one, thn, inBlk, jmp, fldP, ldP, ldC, live, Cells.len, Cells.get, Cells.w, sug, ldv, bin, eqF, eq1, ops2, sh2, binv, Tk.agg, stC, apC, rdS, apS, cpC, cpS, mvL, zp, argsP, idx, fillP, toInts, chunks, mkC, ixS, ixA, oidx, slP, sl0, slA, optL, List.append, mxF, bltn, frzA, frz, frzL, frz1, pur1, Cells.pur, PV.scal, scal1, runD, rdO, PV.ids, id1, zids, ety, Eff.on, cnd, minb, and1b, ifmax, ifmin, mxv, sugI, strv, w0, w1, w2, wm1, hP0, List.take_succ_cons, List.take_zero, List.drop_succ_cons, List.drop_zero]
      repeat' (first | apply And.intro | intro _)
      any_goals (first | (refine hK16 _ ?_; clear hK16) | (first | omega | (simp only [IntKind.wrap_i64] at *; omega) | (simp_all; done) | (simp_all; omega)))
      refine swp_seq fun K19 hK19 => ?_
      refine swp_seq fun K20 hK20 => ?_
      refine swp_region ty_ok ?_
      try simp (maxSteps := 1000000) [runs, gd, step1, need, evu, un, opnds, opv, ev, cst, cst1, cstL, getT, getH, putT, onL, nxt, argT, cellsOf, PV.one, thn, inBlk, jmp, fldP, ldP, ldC, live, Cells.len, Cells.get, Cells.w, sug, ldv, bin, eqF, eq1, ops2, sh2, binv, Tk.agg, stC, apC, rdS, apS, cpC, cpS, mvL, zp, argsP, idx, fillP, toInts, chunks, mkC, ixS, ixA, oidx, slP, sl0, slA, optL, List.append, mxF, bltn, frzA, frz, frzL, frz1, pur1, Cells.pur, PV.scal, scal1, runD, rdO, PV.ids, id1, zids, ety, Eff.on, cnd, minb, and1b, ifmax, ifmin, mxv, sugI, strv, w0, w1, w2, wm1]
      repeat' (first | apply And.intro | intro _)
      any_goals (first | (refine hK20 _ ?_; clear hK20) | (first | omega | (simp only [IntKind.wrap_i64] at *; omega) | (simp_all; done) | (simp_all; omega)))
      refine swp_block ?_
      refine swp_own 6 47 (by simp [getT]; rfl) rfl ?_
      refine swp_loop 2 (fun m_ s_ => ∃ (k : Nat) (p1 : Int) (L : List (List Sc)), (k ≤ g.length) ∧ (0 ≤ p1 ∧ p1 ≤ 1000000) ∧ (L.length = k) ∧ (allR bs (szS s : Nat) (moS s : Nat) m (g.length - k) p1 L = allR bs (szS s : Nat) (moS s : Nat) m g.length a []) ∧ s_ = ⟨[(0, .ro (.ints .u8 bs)), (5, .ptr 0 0 0 1), (6, .sl 1 0 L.length L.length), (7, .int .i64 p1), (8, .int .i64 0), (9, .int .i64 (szS s : Nat)), (10, .int .i64 (moS s : Nat)), (40, .int .i64 (g.length : Nat)), (41, .int .i64 (k : Nat))], [(0, some ⟨.rows 4 [[.int .u8 s, .int .u8 sh, .int .i64 m, .ro (.ints .i64 g)]], true, 24⟩), (1, some ⟨.rows 1 (L.map fun w => [.ro (.rows 2 (w.map Sc.row))]), false, 47⟩)], 2⟩ ∧ m_ = g.length - k) _ ⟨[(0, .ro (.ints .u8 bs)), (5, .ptr 0 0 0 1), (6, .sl 1 0 ([] : List (List Sc)).length ([] : List (List Sc)).length), (7, .int .i64 a), (8, .int .i64 0), (9, .int .i64 (szS s : Nat)), (10, .int .i64 (moS s : Nat)), (40, .int .i64 (g.length : Nat)), (41, .int .i64 (0 : Nat))], [(0, some ⟨.rows 4 [[.int .u8 s, .int .u8 sh, .int .i64 m, .ro (.ints .i64 g)]], true, 24⟩), (1, some ⟨.rows 1 (([] : List (List Sc)).map fun w => [.ro (.rows 2 (w.map Sc.row))]), false, 47⟩)], 2⟩ ⟨by simp [getT, PV.lo, lo1, hP0, he0], by simp [getH, Blk.lo, Cells.lo, lo1], rfl, by omega⟩ ⟨(0), (a), (([] : List (List Sc))), by omega, by omega, by rfl, by rfl, rfl, rfl⟩ ?_
      rintro m_ s_ ⟨k, p1, L, hL21_0, hL21_1, hL21_2, hL21_3, rfl, rfl⟩ KL21 hL21
      have hkw := wnext (i := k) (by omega)
      refine swp_seq fun K22 hK22 => ?_
      refine swp_region ty_ok ?_
      try simp (maxSteps := 1000000) [runs, gd, step1, need, evu, un, opnds, opv, ev, cst, cst1, cstL, getT, getH, putT, onL, nxt, argT, cellsOf, PV.one, thn, inBlk, jmp, fldP, ldP, ldC, live, Cells.len, Cells.get, Cells.w, sug, ldv, bin, eqF, eq1, ops2, sh2, binv, Tk.agg, stC, apC, rdS, apS, cpC, cpS, mvL, zp, argsP, idx, fillP, toInts, chunks, mkC, ixS, ixA, oidx, slP, sl0, slA, optL, List.append, mxF, bltn, frzA, frz, frzL, frz1, pur1, Cells.pur, PV.scal, scal1, runD, rdO, PV.ids, id1, zids, ety, Eff.on, cnd, minb, and1b, ifmax, ifmin, mxv, sugI, strv, w0, w1, w2, wm1]
      repeat' (first | apply And.intro | intro _)
      any_goals (first | (refine hK22 _ ?_; clear hK22) | (first | omega | (simp only [IntKind.wrap_i64] at *; omega) | (simp_all; done) | (simp_all; omega)))
      refine swp_seq fun K23 hK23 => ?_
      refine swp_if fun C24 hC24 => ?_
      try simp (maxSteps := 1000000) [runs, gd, step1, need, evu, un, opnds, opv, ev, cst, cst1, cstL, getT, getH, putT, onL, nxt, argT, cellsOf, PV.one, thn, inBlk, jmp, fldP, ldP, ldC, live, Cells.len, Cells.get, Cells.w, sug, ldv, bin, eqF, eq1, ops2, sh2, binv, Tk.agg, stC, apC, rdS, apS, cpC, cpS, mvL, zp, argsP, idx, fillP, toInts, chunks, mkC, ixS, ixA, oidx, slP, sl0, slA, optL, List.append, mxF, bltn, frzA, frz, frzL, frz1, pur1, Cells.pur, PV.scal, scal1, runD, rdO, PV.ids, id1, zids, ety, Eff.on, cnd, minb, and1b, ifmax, ifmin, mxv, sugI, strv, w0, w1, w2, wm1]
      refine hC24 _ (fun hc24 => ?_) (fun hc24 => ?_)
      · clear hC24
        try simp at hc24
        refine swp_skip ?_
        try simp only [thn, inBlk]
        refine hK23 _ ?_; clear hK23
        refine swp_seq fun K25 hK25 => ?_
        refine swp_block ?_
        refine swp_seq fun K26 hK26 => ?_
        refine swp_region ty_ok ?_
        try simp (maxSteps := 1000000) [runs, gd, step1, need, evu, un, opnds, opv, ev, cst, cst1, cstL, getT, getH, putT, onL, nxt, argT, cellsOf, PV.one, thn, inBlk, jmp, fldP, ldP, ldC, live, Cells.len, Cells.get, Cells.w, sug, ldv, bin, eqF, eq1, ops2, sh2, binv, Tk.agg, stC, apC, rdS, apS, cpC, cpS, mvL, zp, argsP, idx, fillP, toInts, chunks, mkC, ixS, ixA, oidx, slP, sl0, slA, optL, List.append, mxF, bltn, frzA, frz, frzL, frz1, pur1, Cells.pur, PV.scal, scal1, runD, rdO, PV.ids, id1, zids, ety, Eff.on, cnd, minb, and1b, ifmax, ifmin, mxv, sugI, strv, w0, w1, w2, wm1]
        repeat' (first | apply And.intro | intro _)
        any_goals (first | (refine hK26 _ ?_; clear hK26) | (first | omega | (simp only [IntKind.wrap_i64] at *; omega) | (simp_all; done) | (simp_all; omega)))
        refine swp_seq fun K27 hK27 => ?_
        refine swp_seq fun K28 hK28 => ?_
        refine swp_region ty_ok ?_
        try simp (maxSteps := 1000000) [runs, gd, step1, need, evu, un, opnds, opv, ev, cst, cst1, cstL, getT, getH, putT, onL, nxt, argT, cellsOf, PV.one, thn, inBlk, jmp, fldP, ldP, ldC, live, Cells.len, Cells.get, Cells.w, sug, ldv, bin, eqF, eq1, ops2, sh2, binv, Tk.agg, stC, apC, rdS, apS, cpC, cpS, mvL, zp, argsP, idx, fillP, toInts, chunks, mkC, ixS, ixA, oidx, slP, sl0, slA, optL, List.append, mxF, bltn, frzA, frz, frzL, frz1, pur1, Cells.pur, PV.scal, scal1, runD, rdO, PV.ids, id1, zids, ety, Eff.on, cnd, minb, and1b, ifmax, ifmin, mxv, sugI, strv, w0, w1, w2, wm1]
        repeat' (first | apply And.intro | intro _)
        any_goals (first | (refine hK28 _ ?_; clear hK28) | (first | omega | (simp only [IntKind.wrap_i64] at *; omega) | (simp_all; done) | (simp_all; omega)))
        refine swp_block ?_
        refine swp_own 11 76 (by simp [getT]; rfl) rfl ?_
        refine swp_loop 3 (fun m_ s_ => ∃ (f : Nat) (left : Int) (p : Int) (w : List Sc), (left < f ∧ left ≤ 40 ∧ 0 ≤ left) ∧ (0 ≤ p ∧ p ≤ 1000000) ∧ ((w.length : Int) ≤ 40 - left) ∧ (grpR bs (szS s : Nat) (moS s : Nat) f left p w = grpR bs (szS s : Nat) (moS s : Nat) 41 m p1 []) ∧ s_ = ⟨[(0, .ro (.ints .u8 bs)), (5, .ptr 0 0 0 1), (6, .sl 1 0 L.length L.length), (7, .int .i64 p), (8, .int .i64 0), (9, .int .i64 (szS s : Nat)), (10, .int .i64 (moS s : Nat)), (40, .int .i64 (g.length : Nat)), (41, .int .i64 (k : Nat)), (11, .sl 2 0 w.length w.length), (12, .int .i64 left)], [(0, some ⟨.rows 4 [[.int .u8 s, .int .u8 sh, .int .i64 m, .ro (.ints .i64 g)]], true, 24⟩), (1, some ⟨.rows 1 (L.map fun w => [.ro (.rows 2 (w.map Sc.row))]), false, 47⟩), (2, some ⟨.rows 2 (w.map Sc.row), false, 76⟩)], 3⟩ ∧ m_ = 0 + f) _ ⟨[(0, .ro (.ints .u8 bs)), (5, .ptr 0 0 0 1), (6, .sl 1 0 L.length L.length), (7, .int .i64 p1), (8, .int .i64 0), (9, .int .i64 (szS s : Nat)), (10, .int .i64 (moS s : Nat)), (40, .int .i64 (g.length : Nat)), (41, .int .i64 (k : Nat)), (11, .sl 2 0 ([] : List Sc).length ([] : List Sc).length), (12, .int .i64 m)], [(0, some ⟨.rows 4 [[.int .u8 s, .int .u8 sh, .int .i64 m, .ro (.ints .i64 g)]], true, 24⟩), (1, some ⟨.rows 1 (L.map fun w => [.ro (.rows 2 (w.map Sc.row))]), false, 47⟩), (2, some ⟨.rows 2 (([] : List Sc).map Sc.row), false, 76⟩)], 3⟩ ⟨by simp [getT, PV.lo, lo1], by simp [getH, Blk.lo, Cells.lo, lo1], rfl, by omega⟩ ⟨(41), (m), (p1), (([] : List Sc)), by omega, by omega, by (simp; omega), by rfl, rfl, rfl⟩ ?_
        rintro m_ s_ ⟨f, left, p, w, hL29_0, hL29_1, hL29_2, hL29_3, rfl, rfl⟩ KL29 hL29
        refine swp_seq fun K30 hK30 => ?_
        refine swp_seq fun K31 hK31 => ?_
        refine swp_region ty_ok ?_
        try simp (maxSteps := 1000000) [runs, gd, step1, need, evu, un, opnds, opv, ev, cst, cst1, cstL, getT, getH, putT, onL, nxt, argT, cellsOf, PV.one, thn, inBlk, jmp, fldP, ldP, ldC, live, Cells.len, Cells.get, Cells.w, sug, ldv, bin, eqF, eq1, ops2, sh2, binv, Tk.agg, stC, apC, rdS, apS, cpC, cpS, mvL, zp, argsP, idx, fillP, toInts, chunks, mkC, ixS, ixA, oidx, slP, sl0, slA, optL, List.append, mxF, bltn, frzA, frz, frzL, frz1, pur1, Cells.pur, PV.scal, scal1, runD, rdO, PV.ids, id1, zids, ety, Eff.on, cnd, minb, and1b, ifmax, ifmin, mxv, sugI, strv, w0, w1, w2, wm1]
        repeat' (first | apply And.intro | intro _)
        any_goals (first | (refine hK31 _ ?_; clear hK31) | (first | omega | (simp only [IntKind.wrap_i64] at *; omega) | (simp_all; done) | (simp_all; omega)))
        refine swp_if fun C32 hC32 => ?_
        try simp (maxSteps := 1000000) [runs, gd, step1, need, evu, un, opnds, opv, ev, cst, cst1, cstL, getT, getH, putT, onL, nxt, argT, cellsOf, PV.one, thn, inBlk, jmp, fldP, ldP, ldC, live, Cells.len, Cells.get, Cells.w, sug, ldv, bin, eqF, eq1, ops2, sh2, binv, Tk.agg, stC, apC, rdS, apS, cpC, cpS, mvL, zp, argsP, idx, fillP, toInts, chunks, mkC, ixS, ixA, oidx, slP, sl0, slA, optL, List.append, mxF, bltn, frzA, frz, frzL, frz1, pur1, Cells.pur, PV.scal, scal1, runD, rdO, PV.ids, id1, zids, ety, Eff.on, cnd, minb, and1b, ifmax, ifmin, mxv, sugI, strv, w0, w1, w2, wm1]
        refine hC32 _ (fun hc32 => ?_) (fun hc32 => ?_)
        · clear hC32
          try simp at hc32
          refine swp_skip ?_
          try simp only [thn, inBlk]
          refine hK30 _ ?_; clear hK30
          refine swp_block ?_
          refine swp_seq fun K33 hK33 => ?_
          refine swp_region ty_ok ?_
          try simp (maxSteps := 1000000) [runs, gd, step1, need, evu, un, opnds, opv, ev, cst, cst1, cstL, getT, getH, putT, onL, nxt, argT, cellsOf, PV.one, thn, inBlk, jmp, fldP, ldP, ldC, live, Cells.len, Cells.get, Cells.w, sug, ldv, bin, eqF, eq1, ops2, sh2, binv, Tk.agg, stC, apC, rdS, apS, cpC, cpS, mvL, zp, argsP, idx, fillP, toInts, chunks, mkC, ixS, ixA, oidx, slP, sl0, slA, optL, List.append, mxF, bltn, frzA, frz, frzL, frz1, pur1, Cells.pur, PV.scal, scal1, runD, rdO, PV.ids, id1, zids, ety, Eff.on, cnd, minb, and1b, ifmax, ifmin, mxv, sugI, strv, w0, w1, w2, wm1]
          repeat' (first | apply And.intro | intro _)
          any_goals (first | (refine hK33 _ ?_; clear hK33) | (first | omega | (simp only [IntKind.wrap_i64] at *; omega) | (simp_all; done) | (simp_all; omega)))
          refine swp_seq fun K34 hK34 => ?_
          refine swp_seq fun K35 hK35 => ?_
          refine swp_region ty_ok ?_
          refine runs_cut 2 fun R36 hR36 => ?_
          try simp (maxSteps := 1000000) [runs, gd, step1, need, evu, un, opnds, opv, ev, cst, cst1, cstL, getT, getH, putT, onL, nxt, argT, cellsOf, PV.one, thn, inBlk, jmp, fldP, ldP, ldC, live, Cells.len, Cells.get, Cells.w, sug, ldv, bin, eqF, eq1, ops2, sh2, binv, Tk.agg, stC, apC, rdS, apS, cpC, cpS, mvL, zp, argsP, idx, fillP, toInts, chunks, mkC, ixS, ixA, oidx, slP, sl0, slA, optL, List.append, mxF, bltn, frzA, frz, frzL, frz1, pur1, Cells.pur, PV.scal, scal1, runD, rdO, PV.ids, id1, zids, ety, Eff.on, cnd, minb, and1b, ifmax, ifmin, mxv, sugI, strv, w0, w1, w2, wm1, List.take_succ_cons, List.take_zero, List.drop_succ_cons, List.drop_zero]
          repeat' (first | apply And.intro | intro _)
          any_goals (first | (refine hR36 _ ?_; clear hR36) | (first | omega | (simp only [IntKind.wrap_i64] at *; omega) | (simp_all; done) | (simp_all; omega)))
          refine runs_cut 1 fun R37 hR37 => ?_
          try simp (maxSteps := 1000000) [runs, gd, step1, need, evu, un, opnds, opv, ev, cst, cst1, cstL, getT, getH, putT, onL, nxt, argT, cellsOf, PV.one, thn, inBlk, jmp, fldP, ldP, ldC, live, Cells.len, Cells.get, Cells.w, sug, ldv, bin, eqF, eq1, ops2, sh2, binv, Tk.agg, stC, apC, rdS, apS, cpC, cpS, mvL, zp, argsP, idx, fillP, toInts, chunks, mkC, ixS, ixA, oidx, slP, sl0, slA, optL, List.append, mxF, bltn, frzA, frz, frzL, frz1, pur1, Cells.pur, PV.scal, scal1, runD, rdO, PV.ids, id1, zids, ety, Eff.on, cnd, minb, and1b, ifmax, ifmin, mxv, sugI, strv, w0, w1, w2, wm1, List.take_succ_cons, List.take_zero, List.drop_succ_cons, List.drop_zero]
          refine .inl ⟨_, get_ok bs p 4 (by omega) hp255 (by omega), ?_⟩
          try simp (maxSteps := 1000000) [runs, gd, step1, need, evu, un, opnds, opv, ev, cst, cst1, cstL, getT, getH, putT, onL, nxt, argT, cellsOf, PV.one, thn, inBlk, jmp, fldP, ldP, ldC, live, Cells.len, Cells.get, Cells.w, sug, ldv, bin, eqF, eq1, ops2, sh2, binv, Tk.agg, stC, apC, rdS, apS, cpC, cpS, mvL, zp, argsP, idx, fillP, toInts, chunks, mkC, ixS, ixA, oidx, slP, sl0, slA, optL, List.append, mxF, bltn, frzA, frz, frzL, frz1, pur1, Cells.pur, PV.scal, scal1, runD, rdO, PV.ids, id1, zids, ety, Eff.on, cnd, minb, and1b, ifmax, ifmin, mxv, sugI, strv, w0, w1, w2, wm1]
          repeat' (first | apply And.intro | intro _)
          any_goals (first | (refine hR37 _ ?_; clear hR37) | (first | omega | (simp only [IntKind.wrap_i64] at *; omega) | (simp_all; done) | (simp_all; omega)))
          try simp (maxSteps := 1000000) [runs, gd, step1, need, evu, un, opnds, opv, ev, cst, cst1, cstL, getT, getH, putT, onL, nxt, argT, cellsOf, PV.one, thn, inBlk, jmp, fldP, ldP, ldC, live, Cells.len, Cells.get, Cells.w, sug, ldv, bin, eqF, eq1, ops2, sh2, binv, Tk.agg, stC, apC, rdS, apS, cpC, cpS, mvL, zp, argsP, idx, fillP, toInts, chunks, mkC, ixS, ixA, oidx, slP, sl0, slA, optL, List.append, mxF, bltn, frzA, frz, frzL, frz1, pur1, Cells.pur, PV.scal, scal1, runD, rdO, PV.ids, id1, zids, ety, Eff.on, cnd, minb, and1b, ifmax, ifmin, mxv, sugI, strv, w0, w1, w2, wm1, List.take_succ_cons, List.take_zero, List.drop_succ_cons, List.drop_zero]
          repeat' (first | apply And.intro | intro _)
          any_goals (first | (refine hK35 _ ?_; clear hK35) | (first | omega | (simp only [IntKind.wrap_i64] at *; omega) | (simp_all; done) | (simp_all; omega)))
          refine swp_seq fun K38 hK38 => ?_
          refine swp_region ty_ok ?_
          try simp (maxSteps := 1000000) [runs, gd, step1, need, evu, un, opnds, opv, ev, cst, cst1, cstL, getT, getH, putT, onL, nxt, argT, cellsOf, PV.one, thn, inBlk, jmp, fldP, ldP, ldC, live, Cells.len, Cells.get, Cells.w, sug, ldv, bin, eqF, eq1, ops2, sh2, binv, Tk.agg, stC, apC, rdS, apS, cpC, cpS, mvL, zp, argsP, idx, fillP, toInts, chunks, mkC, ixS, ixA, oidx, slP, sl0, slA, optL, List.append, mxF, bltn, frzA, frz, frzL, frz1, pur1, Cells.pur, PV.scal, scal1, runD, rdO, PV.ids, id1, zids, ety, Eff.on, cnd, minb, and1b, ifmax, ifmin, mxv, sugI, strv, w0, w1, w2, wm1]
          repeat' (first | apply And.intro | intro _)
          any_goals (first | (refine hK38 _ ?_; clear hK38) | (first | omega | (simp only [IntKind.wrap_i64] at *; omega) | (simp_all; done) | (simp_all; omega)))
          refine swp_if fun C39 hC39 => ?_
          try simp (maxSteps := 1000000) [runs, gd, step1, need, evu, un, opnds, opv, ev, cst, cst1, cstL, getT, getH, putT, onL, nxt, argT, cellsOf, PV.one, thn, inBlk, jmp, fldP, ldP, ldC, live, Cells.len, Cells.get, Cells.w, sug, ldv, bin, eqF, eq1, ops2, sh2, binv, Tk.agg, stC, apC, rdS, apS, cpC, cpS, mvL, zp, argsP, idx, fillP, toInts, chunks, mkC, ixS, ixA, oidx, slP, sl0, slA, optL, List.append, mxF, bltn, frzA, frz, frzL, frz1, pur1, Cells.pur, PV.scal, scal1, runD, rdO, PV.ids, id1, zids, ety, Eff.on, cnd, minb, and1b, ifmax, ifmin, mxv, sugI, strv, w0, w1, w2, wm1]
          refine hC39 _ (fun hc39 => ?_) (fun hc39 => ?_)
          · clear hC39
            try simp at hc39
            refine swp_seq fun K40 hK40 => ?_
            refine swp_region ty_ok ?_
            try simp (maxSteps := 1000000) [runs, gd, step1, need, evu, un, opnds, opv, ev, cst, cst1, cstL, getT, getH, putT, onL, nxt, argT, cellsOf, PV.one, thn, inBlk, jmp, fldP, ldP, ldC, live, Cells.len, Cells.get, Cells.w, sug, ldv, bin, eqF, eq1, ops2, sh2, binv, Tk.agg, stC, apC, rdS, apS, cpC, cpS, mvL, zp, argsP, idx, fillP, toInts, chunks, mkC, ixS, ixA, oidx, slP, sl0, slA, optL, List.append, mxF, bltn, frzA, frz, frzL, frz1, pur1, Cells.pur, PV.scal, scal1, runD, rdO, PV.ids, id1, zids, ety, Eff.on, cnd, minb, and1b, ifmax, ifmin, mxv, sugI, strv, w0, w1, w2, wm1]
            repeat' (first | apply And.intro | intro _)
            any_goals (first | (refine hK40 _ ?_; clear hK40) | (first | omega | (simp only [IntKind.wrap_i64] at *; omega) | (simp_all; done) | (simp_all; omega)))
            refine swp_ret ?_
            simp [runs, gd, step1, need, evu, un, opnds, opv, ev, cst, cst1, cstL, getT, getH, putT, onL, nxt, argT, cellsOf, PV.one, thn, inBlk, jmp, fldP, ldP, ldC, live, Cells.len, Cells.get, Cells.w, sug, ldv, bin, eqF, eq1, ops2, sh2, binv, Tk.agg, stC, apC, rdS, apS, cpC, cpS, mvL, zp, argsP, idx, fillP, toInts, chunks, mkC, ixS, ixA, oidx, slP, sl0, slA, optL, List.append, mxF, bltn, frzA, frz, frzL, frz1, pur1, Cells.pur, PV.scal, scal1, runD, rdO, PV.ids, id1, zids, ety, Eff.on, cnd, minb, and1b, ifmax, ifmin, mxv, sugI, strv, w0, w1, w2, wm1, fnPost, Try.results32, resP, tupOf]
            rw [get_fail hR (by assumption) (by omega) (by assumption) (by omega) (by omega) (secR_1 hc39) hc39]; exact ⟨rfl, rfl, rfl⟩
          · clear hC39
            try simp at hc39
            refine swp_skip ?_
            try simp only [thn, inBlk]
            refine hK34 _ ?_; clear hK34
            refine swp_seq fun K41 hK41 => ?_
            refine swp_seq fun K42 hK42 => ?_
            have he4 : getE bs p 4 = 0 := hc39
            refine swp_region ty_ok ?_
            try simp (maxSteps := 1000000) [runs, gd, step1, need, evu, un, opnds, opv, ev, cst, cst1, cstL, getT, getH, putT, onL, nxt, argT, cellsOf, PV.one, thn, inBlk, jmp, fldP, ldP, ldC, live, Cells.len, Cells.get, Cells.w, sug, ldv, bin, eqF, eq1, ops2, sh2, binv, Tk.agg, stC, apC, rdS, apS, cpC, cpS, mvL, zp, argsP, idx, fillP, toInts, chunks, mkC, ixS, ixA, oidx, slP, sl0, slA, optL, List.append, mxF, bltn, frzA, frz, frzL, frz1, pur1, Cells.pur, PV.scal, scal1, runD, rdO, PV.ids, id1, zids, ety, Eff.on, cnd, minb, and1b, ifmax, ifmin, mxv, sugI, strv, w0, w1, w2, wm1]
            repeat' (first | apply And.intro | intro _)
            any_goals (first | (refine hK42 _ ?_; clear hK42) | (first | omega | (simp only [IntKind.wrap_i64] at *; omega) | (simp_all; done) | (simp_all; omega)))
            refine swp_if fun C43 hC43 => ?_
            try simp (maxSteps := 1000000) [runs, gd, step1, need, evu, un, opnds, opv, ev, cst, cst1, cstL, getT, getH, putT, onL, nxt, argT, cellsOf, PV.one, thn, inBlk, jmp, fldP, ldP, ldC, live, Cells.len, Cells.get, Cells.w, sug, ldv, bin, eqF, eq1, ops2, sh2, binv, Tk.agg, stC, apC, rdS, apS, cpC, cpS, mvL, zp, argsP, idx, fillP, toInts, chunks, mkC, ixS, ixA, oidx, slP, sl0, slA, optL, List.append, mxF, bltn, frzA, frz, frzL, frz1, pur1, Cells.pur, PV.scal, scal1, runD, rdO, PV.ids, id1, zids, ety, Eff.on, cnd, minb, and1b, ifmax, ifmin, mxv, sugI, strv, w0, w1, w2, wm1]
            refine hC43 _ (fun hc43 => ?_) (fun hc43 => ?_)
            · clear hC43
              try simp at hc43
              refine swp_seq fun K44 hK44 => ?_
              refine swp_region ty_ok ?_
              try simp (maxSteps := 1000000) [runs, gd, step1, need, evu, un, opnds, opv, ev, cst, cst1, cstL, getT, getH, putT, onL, nxt, argT, cellsOf, PV.one, thn, inBlk, jmp, fldP, ldP, ldC, live, Cells.len, Cells.get, Cells.w, sug, ldv, bin, eqF, eq1, ops2, sh2, binv, Tk.agg, stC, apC, rdS, apS, cpC, cpS, mvL, zp, argsP, idx, fillP, toInts, chunks, mkC, ixS, ixA, oidx, slP, sl0, slA, optL, List.append, mxF, bltn, frzA, frz, frzL, frz1, pur1, Cells.pur, PV.scal, scal1, runD, rdO, PV.ids, id1, zids, ety, Eff.on, cnd, minb, and1b, ifmax, ifmin, mxv, sugI, strv, w0, w1, w2, wm1]
              repeat' (first | apply And.intro | intro _)
              any_goals (first | (refine hK44 _ ?_; clear hK44) | (first | omega | (simp only [IntKind.wrap_i64] at *; omega) | (simp_all; done) | (simp_all; omega)))
              refine swp_ret ?_
              simp [runs, gd, step1, need, evu, un, opnds, opv, ev, cst, cst1, cstL, getT, getH, putT, onL, nxt, argT, cellsOf, PV.one, thn, inBlk, jmp, fldP, ldP, ldC, live, Cells.len, Cells.get, Cells.w, sug, ldv, bin, eqF, eq1, ops2, sh2, binv, Tk.agg, stC, apC, rdS, apS, cpC, cpS, mvL, zp, argsP, idx, fillP, toInts, chunks, mkC, ixS, ixA, oidx, slP, sl0, slA, optL, List.append, mxF, bltn, frzA, frz, frzL, frz1, pur1, Cells.pur, PV.scal, scal1, runD, rdO, PV.ids, id1, zids, ety, Eff.on, cnd, minb, and1b, ifmax, ifmin, mxv, sugI, strv, w0, w1, w2, wm1, fnPost, Try.results32, resP, tupOf]
              rw [get_fail hR (by assumption) (by omega) (by assumption) (by omega) (by omega) (secR_2 he4 (odd_y hc43)) (by omega)]; exact ⟨rfl, rfl, rfl⟩
            · clear hC43
              try simp at hc43
              refine swp_skip ?_
              try simp only [thn, inBlk]
              refine hK41 _ ?_; clear hK41
              refine swp_seq fun K45 hK45 => ?_
              refine swp_seq fun K46 hK46 => ?_
              refine swp_region ty_ok ?_
              try simp (maxSteps := 1000000) [runs, gd, step1, need, evu, un, opnds, opv, ev, cst, cst1, cstL, getT, getH, putT, onL, nxt, argT, cellsOf, PV.one, thn, inBlk, jmp, fldP, ldP, ldC, live, Cells.len, Cells.get, Cells.w, sug, ldv, bin, eqF, eq1, ops2, sh2, binv, Tk.agg, stC, apC, rdS, apS, cpC, cpS, mvL, zp, argsP, idx, fillP, toInts, chunks, mkC, ixS, ixA, oidx, slP, sl0, slA, optL, List.append, mxF, bltn, frzA, frz, frzL, frz1, pur1, Cells.pur, PV.scal, scal1, runD, rdO, PV.ids, id1, zids, ety, Eff.on, cnd, minb, and1b, ifmax, ifmin, mxv, sugI, strv, w0, w1, w2, wm1]
              repeat' (first | apply And.intro | intro _)
              any_goals (first | (refine hK46 _ ?_; clear hK46) | (first | omega | (simp only [IntKind.wrap_i64] at *; omega) | (simp_all; done) | (simp_all; omega)))
              refine swp_block ?_
              have h4 := getN_15 hp0 (p := p)
              have hgp := getP_in (p := p) (z := 4) hb
              have hF := szS_F s
              have hodd : oddB (getN bs p 4) = false := odd_n (by have h := hc43; simpa using h)
              refine swp_loop 4 (fun m_ s_ => ∃ (e : Nat) (acc : Int) (q : Int) (n : Int), (0 ≤ acc ∧ acc ≤ left ∧ 0 ≤ n ∧ n ≤ (moS s : Nat)) ∧ (0 ≤ q ∧ q ≤ 1000000) ∧ (n = (moS s : Nat) → left - acc < e ∧ lenR bs (szS s : Nat) (moS s : Nat) left e acc q = lenR bs (szS s : Nat) (moS s : Nat) left 41 0 (getP bs p 4)) ∧ (¬ n = (moS s : Nat) → lenR bs (szS s : Nat) (moS s : Nat) left 41 0 (getP bs p 4) = (acc, q, 0)) ∧ s_ = ⟨[(0, .ro (.ints .u8 bs)), (5, .ptr 0 0 0 1), (6, .sl 1 0 L.length L.length), (7, .int .i64 q), (8, .int .i64 0), (9, .int .i64 (szS s : Nat)), (10, .int .i64 (moS s : Nat)), (40, .int .i64 (g.length : Nat)), (41, .int .i64 (k : Nat)), (11, .sl 2 0 w.length w.length), (12, .int .i64 left), (13, .ptr 3 0 0 1), (14, .int .i64 n)], [(0, some ⟨.rows 4 [[.int .u8 s, .int .u8 sh, .int .i64 m, .ro (.ints .i64 g)]], true, 24⟩), (1, some ⟨.rows 1 (L.map fun w => [.ro (.rows 2 (w.map Sc.row))]), false, 47⟩), (2, some ⟨.rows 2 (w.map Sc.row), false, 76⟩), (3, some ⟨.rows 2 [[.int .i64 (getN bs p 4), .int .i64 acc]], true, 76⟩)], 4⟩ ∧ m_ = 0 + e) _ ⟨[(0, .ro (.ints .u8 bs)), (5, .ptr 0 0 0 1), (6, .sl 1 0 L.length L.length), (7, .int .i64 (getP bs p 4)), (8, .int .i64 0), (9, .int .i64 (szS s : Nat)), (10, .int .i64 (moS s : Nat)), (40, .int .i64 (g.length : Nat)), (41, .int .i64 (k : Nat)), (11, .sl 2 0 w.length w.length), (12, .int .i64 left), (13, .ptr 3 0 0 1), (14, .int .i64 (moS s : Nat))], [(0, some ⟨.rows 4 [[.int .u8 s, .int .u8 sh, .int .i64 m, .ro (.ints .i64 g)]], true, 24⟩), (1, some ⟨.rows 1 (L.map fun w => [.ro (.rows 2 (w.map Sc.row))]), false, 47⟩), (2, some ⟨.rows 2 (w.map Sc.row), false, 76⟩), (3, some ⟨.rows 2 [[.int .i64 (getN bs p 4), .int .i64 0]], true, 76⟩)], 4⟩ ⟨by simp [getT, PV.lo, lo1, he4], by simp [getH, Blk.lo, Cells.lo, lo1], rfl, by omega⟩ ⟨(41), (0), (getP bs p 4), ((moS s : Nat)), by omega, by omega, by exact fun _ => ⟨by omega, rfl⟩, by exact fun h => absurd rfl h, rfl, rfl⟩ ?_
              rintro m_ s_ ⟨e, acc, q, n, hL47_0, hL47_1, hL47_2, hL47_3, rfl, rfl⟩ KL47 hL47
              have hgn := getN_31 hp0 (p := q) (s := s)
              have hgq := getP_in (p := q) (z := (szS s : Nat)) hb
              refine swp_seq fun K48 hK48 => ?_
              refine swp_seq fun K49 hK49 => ?_
              refine swp_region ty_ok ?_
              try simp (maxSteps := 1000000) [runs, gd, step1, need, evu, un, opnds, opv, ev, cst, cst1, cstL, getT, getH, putT, onL, nxt, argT, cellsOf, PV.one, thn, inBlk, jmp, fldP, ldP, ldC, live, Cells.len, Cells.get, Cells.w, sug, ldv, bin, eqF, eq1, ops2, sh2, binv, Tk.agg, stC, apC, rdS, apS, cpC, cpS, mvL, zp, argsP, idx, fillP, toInts, chunks, mkC, ixS, ixA, oidx, slP, sl0, slA, optL, List.append, mxF, bltn, frzA, frz, frzL, frz1, pur1, Cells.pur, PV.scal, scal1, runD, rdO, PV.ids, id1, zids, ety, Eff.on, cnd, minb, and1b, ifmax, ifmin, mxv, sugI, strv, w0, w1, w2, wm1]
              repeat' (first | apply And.intro | intro _)
              any_goals (first | (refine hK49 _ ?_; clear hK49) | (first | omega | (simp only [IntKind.wrap_i64] at *; omega) | (simp_all; done) | (simp_all; omega)))
              refine swp_if fun C50 hC50 => ?_
              try simp (maxSteps := 1000000) [runs, gd, step1, need, evu, un, opnds, opv, ev, cst, cst1, cstL, getT, getH, putT, onL, nxt, argT, cellsOf, PV.one, thn, inBlk, jmp, fldP, ldP, ldC, live, Cells.len, Cells.get, Cells.w, sug, ldv, bin, eqF, eq1, ops2, sh2, binv, Tk.agg, stC, apC, rdS, apS, cpC, cpS, mvL, zp, argsP, idx, fillP, toInts, chunks, mkC, ixS, ixA, oidx, slP, sl0, slA, optL, List.append, mxF, bltn, frzA, frz, frzL, frz1, pur1, Cells.pur, PV.scal, scal1, runD, rdO, PV.ids, id1, zids, ety, Eff.on, cnd, minb, and1b, ifmax, ifmin, mxv, sugI, strv, w0, w1, w2, wm1]
              refine hC50 _ (fun hc50 => ?_) (fun hc50 => ?_)
              · clear hC50
                try simp at hc50
                refine swp_skip ?_
                try simp only [thn, inBlk]
                refine hK48 _ ?_; clear hK48
                refine swp_seq fun K51 hK51 => ?_
                refine swp_block ?_
                refine swp_seq fun K52 hK52 => ?_
                refine swp_seq fun K53 hK53 => ?_
                have hnm := (by assumption : n = (moS s : Nat) → _) hc50
                refine swp_region ty_ok ?_
                refine runs_cut 3 fun R54 hR54 => ?_
                try simp (maxSteps := 1000000) [runs, gd, step1, need, evu, un, opnds, opv, ev, cst, cst1, cstL, getT, getH, putT, onL, nxt, argT, cellsOf, PV.one, thn, inBlk, jmp, fldP, ldP, ldC, live, Cells.len, Cells.get, Cells.w, sug, ldv, bin, eqF, eq1, ops2, sh2, binv, Tk.agg, stC, apC, rdS, apS, cpC, cpS, mvL, zp, argsP, idx, fillP, toInts, chunks, mkC, ixS, ixA, oidx, slP, sl0, slA, optL, List.append, mxF, bltn, frzA, frz, frzL, frz1, pur1, Cells.pur, PV.scal, scal1, runD, rdO, PV.ids, id1, zids, ety, Eff.on, cnd, minb, and1b, ifmax, ifmin, mxv, sugI, strv, w0, w1, w2, wm1, List.take_succ_cons, List.take_zero, List.drop_succ_cons, List.drop_zero]
                repeat' (first | apply And.intro | intro _)
                any_goals (first | (refine hR54 _ ?_; clear hR54) | (first | omega | (simp only [IntKind.wrap_i64] at *; omega) | (simp_all; done) | (simp_all; omega)))
                refine runs_cut 1 fun R55 hR55 => ?_
                try simp (maxSteps := 1000000) [runs, gd, step1, need, evu, un, opnds, opv, ev, cst, cst1, cstL, getT, getH, putT, onL, nxt, argT, cellsOf, PV.one, thn, inBlk, jmp, fldP, ldP, ldC, live, Cells.len, Cells.get, Cells.w, sug, ldv, bin, eqF, eq1, ops2, sh2, binv, Tk.agg, stC, apC, rdS, apS, cpC, cpS, mvL, zp, argsP, idx, fillP, toInts, chunks, mkC, ixS, ixA, oidx, slP, sl0, slA, optL, List.append, mxF, bltn, frzA, frz, frzL, frz1, pur1, Cells.pur, PV.scal, scal1, runD, rdO, PV.ids, id1, zids, ety, Eff.on, cnd, minb, and1b, ifmax, ifmin, mxv, sugI, strv, w0, w1, w2, wm1, List.take_succ_cons, List.take_zero, List.drop_succ_cons, List.drop_zero]
                refine .inl ⟨_, get_ok bs q (szS s : Nat) (by omega) hp255 (by omega), ?_⟩
                try simp (maxSteps := 1000000) [runs, gd, step1, need, evu, un, opnds, opv, ev, cst, cst1, cstL, getT, getH, putT, onL, nxt, argT, cellsOf, PV.one, thn, inBlk, jmp, fldP, ldP, ldC, live, Cells.len, Cells.get, Cells.w, sug, ldv, bin, eqF, eq1, ops2, sh2, binv, Tk.agg, stC, apC, rdS, apS, cpC, cpS, mvL, zp, argsP, idx, fillP, toInts, chunks, mkC, ixS, ixA, oidx, slP, sl0, slA, optL, List.append, mxF, bltn, frzA, frz, frzL, frz1, pur1, Cells.pur, PV.scal, scal1, runD, rdO, PV.ids, id1, zids, ety, Eff.on, cnd, minb, and1b, ifmax, ifmin, mxv, sugI, strv, w0, w1, w2, wm1]
                repeat' (first | apply And.intro | intro _)
                any_goals (first | (refine hR55 _ ?_; clear hR55) | (first | omega | (simp only [IntKind.wrap_i64] at *; omega) | (simp_all; done) | (simp_all; omega)))
                try simp (maxSteps := 1000000) [runs, gd, step1, need, evu, un, opnds, opv, ev, cst, cst1, cstL, getT, getH, putT, onL, nxt, argT, cellsOf, PV.one, thn, inBlk, jmp, fldP, ldP, ldC, live, Cells.len, Cells.get, Cells.w, sug, ldv, bin, eqF, eq1, ops2, sh2, binv, Tk.agg, stC, apC, rdS, apS, cpC, cpS, mvL, zp, argsP, idx, fillP, toInts, chunks, mkC, ixS, ixA, oidx, slP, sl0, slA, optL, List.append, mxF, bltn, frzA, frz, frzL, frz1, pur1, Cells.pur, PV.scal, scal1, runD, rdO, PV.ids, id1, zids, ety, Eff.on, cnd, minb, and1b, ifmax, ifmin, mxv, sugI, strv, w0, w1, w2, wm1, List.take_succ_cons, List.take_zero, List.drop_succ_cons, List.drop_zero]
                repeat' (first | apply And.intro | intro _)
                any_goals (first | (refine hK53 _ ?_; clear hK53) | (first | omega | (simp only [IntKind.wrap_i64] at *; omega) | (simp_all; done) | (simp_all; omega)))
                refine swp_seq fun K56 hK56 => ?_
                refine swp_region ty_ok ?_
                try simp (maxSteps := 1000000) [runs, gd, step1, need, evu, un, opnds, opv, ev, cst, cst1, cstL, getT, getH, putT, onL, nxt, argT, cellsOf, PV.one, thn, inBlk, jmp, fldP, ldP, ldC, live, Cells.len, Cells.get, Cells.w, sug, ldv, bin, eqF, eq1, ops2, sh2, binv, Tk.agg, stC, apC, rdS, apS, cpC, cpS, mvL, zp, argsP, idx, fillP, toInts, chunks, mkC, ixS, ixA, oidx, slP, sl0, slA, optL, List.append, mxF, bltn, frzA, frz, frzL, frz1, pur1, Cells.pur, PV.scal, scal1, runD, rdO, PV.ids, id1, zids, ety, Eff.on, cnd, minb, and1b, ifmax, ifmin, mxv, sugI, strv, w0, w1, w2, wm1]
                repeat' (first | apply And.intro | intro _)
                any_goals (first | (refine hK56 _ ?_; clear hK56) | (first | omega | (simp only [IntKind.wrap_i64] at *; omega) | (simp_all; done) | (simp_all; omega)))
                refine swp_if fun C57 hC57 => ?_
                try simp (maxSteps := 1000000) [runs, gd, step1, need, evu, un, opnds, opv, ev, cst, cst1, cstL, getT, getH, putT, onL, nxt, argT, cellsOf, PV.one, thn, inBlk, jmp, fldP, ldP, ldC, live, Cells.len, Cells.get, Cells.w, sug, ldv, bin, eqF, eq1, ops2, sh2, binv, Tk.agg, stC, apC, rdS, apS, cpC, cpS, mvL, zp, argsP, idx, fillP, toInts, chunks, mkC, ixS, ixA, oidx, slP, sl0, slA, optL, List.append, mxF, bltn, frzA, frz, frzL, frz1, pur1, Cells.pur, PV.scal, scal1, runD, rdO, PV.ids, id1, zids, ety, Eff.on, cnd, minb, and1b, ifmax, ifmin, mxv, sugI, strv, w0, w1, w2, wm1]
                refine hC57 _ (fun hc57 => ?_) (fun hc57 => ?_)
                · clear hC57
                  try simp at hc57
                  refine swp_seq fun K58 hK58 => ?_
                  refine swp_region ty_ok ?_
                  try simp (maxSteps := 1000000) [runs, gd, step1, need, evu, un, opnds, opv, ev, cst, cst1, cstL, getT, getH, putT, onL, nxt, argT, cellsOf, PV.one, thn, inBlk, jmp, fldP, ldP, ldC, live, Cells.len, Cells.get, Cells.w, sug, ldv, bin, eqF, eq1, ops2, sh2, binv, Tk.agg, stC, apC, rdS, apS, cpC, cpS, mvL, zp, argsP, idx, fillP, toInts, chunks, mkC, ixS, ixA, oidx, slP, sl0, slA, optL, List.append, mxF, bltn, frzA, frz, frzL, frz1, pur1, Cells.pur, PV.scal, scal1, runD, rdO, PV.ids, id1, zids, ety, Eff.on, cnd, minb, and1b, ifmax, ifmin, mxv, sugI, strv, w0, w1, w2, wm1]
                  repeat' (first | apply And.intro | intro _)
                  any_goals (first | (refine hK58 _ ?_; clear hK58) | (first | omega | (simp only [IntKind.wrap_i64] at *; omega) | (simp_all; done) | (simp_all; omega)))
                  refine swp_ret ?_
                  simp [runs, gd, step1, need, evu, un, opnds, opv, ev, cst, cst1, cstL, getT, getH, putT, onL, nxt, argT, cellsOf, PV.one, thn, inBlk, jmp, fldP, ldP, ldC, live, Cells.len, Cells.get, Cells.w, sug, ldv, bin, eqF, eq1, ops2, sh2, binv, Tk.agg, stC, apC, rdS, apS, cpC, cpS, mvL, zp, argsP, idx, fillP, toInts, chunks, mkC, ixS, ixA, oidx, slP, sl0, slA, optL, List.append, mxF, bltn, frzA, frz, frzL, frz1, pur1, Cells.pur, PV.scal, scal1, runD, rdO, PV.ids, id1, zids, ety, Eff.on, cnd, minb, and1b, ifmax, ifmin, mxv, sugI, strv, w0, w1, w2, wm1, fnPost, Try.results32, resP, tupOf]
                  have hle := len_err hnm (by omega) hc57
                  rw [get_fail hR (by assumption) (by omega) (by assumption) (by omega) (by omega) (secR_3 he4 hodd (by rw [hle]; exact hc57)) (by rw [hle]; exact hc57), hle]; exact ⟨rfl, rfl, rfl⟩
                · clear hC57
                  try simp at hc57
                  refine swp_skip ?_
                  try simp only [thn, inBlk]
                  refine hK52 _ ?_; clear hK52
                  refine swp_seq fun K59 hK59 => ?_
                  have heq : getE bs q (szS s : Nat) = 0 := hc57
                  have hsa : IntKind.i64.wrap (acc + getN bs q (szS s : Nat)) = acc + getN bs q (szS s : Nat) := w64 (by omega)
                  refine swp_region ty_ok ?_
                  try simp (maxSteps := 1000000) [runs, gd, step1, need, evu, un, opnds, opv, ev, cst, cst1, cstL, getT, getH, putT, onL, nxt, argT, cellsOf, PV.one, thn, inBlk, jmp, fldP, ldP, ldC, live, Cells.len, Cells.get, Cells.w, sug, ldv, bin, eqF, eq1, ops2, sh2, binv, Tk.agg, stC, apC, rdS, apS, cpC, cpS, mvL, zp, argsP, idx, fillP, toInts, chunks, mkC, ixS, ixA, oidx, slP, sl0, slA, optL, List.append, mxF, bltn, frzA, frz, frzL, frz1, pur1, Cells.pur, PV.scal, scal1, runD, rdO, PV.ids, id1, zids, ety, Eff.on, cnd, minb, and1b, ifmax, ifmin, mxv, sugI, strv, w0, w1, w2, wm1, hsa]
                  repeat' (first | apply And.intro | intro _)
                  any_goals (first | (refine hK59 _ ?_; clear hK59) | (first | omega | (simp only [IntKind.wrap_i64] at *; omega) | (simp_all; done) | (simp_all; omega)))
                  refine swp_if fun C60 hC60 => ?_
                  try simp (maxSteps := 1000000) [runs, gd, step1, need, evu, un, opnds, opv, ev, cst, cst1, cstL, getT, getH, putT, onL, nxt, argT, cellsOf, PV.one, thn, inBlk, jmp, fldP, ldP, ldC, live, Cells.len, Cells.get, Cells.w, sug, ldv, bin, eqF, eq1, ops2, sh2, binv, Tk.agg, stC, apC, rdS, apS, cpC, cpS, mvL, zp, argsP, idx, fillP, toInts, chunks, mkC, ixS, ixA, oidx, slP, sl0, slA, optL, List.append, mxF, bltn, frzA, frz, frzL, frz1, pur1, Cells.pur, PV.scal, scal1, runD, rdO, PV.ids, id1, zids, ety, Eff.on, cnd, minb, and1b, ifmax, ifmin, mxv, sugI, strv, w0, w1, w2, wm1, hsa]
                  refine hC60 _ (fun hc60 => ?_) (fun hc60 => ?_)
                  · clear hC60
                    try simp at hc60
                    refine swp_seq fun K61 hK61 => ?_
                    refine swp_region ty_ok ?_
                    try simp (maxSteps := 1000000) [runs, gd, step1, need, evu, un, opnds, opv, ev, cst, cst1, cstL, getT, getH, putT, onL, nxt, argT, cellsOf, PV.one, thn, inBlk, jmp, fldP, ldP, ldC, live, Cells.len, Cells.get, Cells.w, sug, ldv, bin, eqF, eq1, ops2, sh2, binv, Tk.agg, stC, apC, rdS, apS, cpC, cpS, mvL, zp, argsP, idx, fillP, toInts, chunks, mkC, ixS, ixA, oidx, slP, sl0, slA, optL, List.append, mxF, bltn, frzA, frz, frzL, frz1, pur1, Cells.pur, PV.scal, scal1, runD, rdO, PV.ids, id1, zids, ety, Eff.on, cnd, minb, and1b, ifmax, ifmin, mxv, sugI, strv, w0, w1, w2, wm1]
                    repeat' (first | apply And.intro | intro _)
                    any_goals (first | (refine hK61 _ ?_; clear hK61) | (first | omega | (simp only [IntKind.wrap_i64] at *; omega) | (simp_all; done) | (simp_all; omega)))
                    refine swp_ret ?_
                    simp [runs, gd, step1, need, evu, un, opnds, opv, ev, cst, cst1, cstL, getT, getH, putT, onL, nxt, argT, cellsOf, PV.one, thn, inBlk, jmp, fldP, ldP, ldC, live, Cells.len, Cells.get, Cells.w, sug, ldv, bin, eqF, eq1, ops2, sh2, binv, Tk.agg, stC, apC, rdS, apS, cpC, cpS, mvL, zp, argsP, idx, fillP, toInts, chunks, mkC, ixS, ixA, oidx, slP, sl0, slA, optL, List.append, mxF, bltn, frzA, frz, frzL, frz1, pur1, Cells.pur, PV.scal, scal1, runD, rdO, PV.ids, id1, zids, ety, Eff.on, cnd, minb, and1b, ifmax, ifmin, mxv, sugI, strv, w0, w1, w2, wm1, fnPost, Try.results32, resP, tupOf]
                    have hle := len_big hnm (by omega) heq hc60
                    rw [get_fail hR (by assumption) (by omega) (by assumption) (by omega) (by omega) (secR_3 he4 hodd (by rw [hle]; decide)) (by rw [hle]; decide), hle]; exact ⟨rfl, rfl, rfl⟩
                  · clear hC60
                    try simp at hc60
                    refine swp_skip ?_
                    try simp only [thn, inBlk]
                    refine hK51 _ ?_; clear hK51
                    have hnx := len_next hnm (by omega) heq (by have h := hc60; omega) (by omega)
                    refine swp_region ty_ok ?_
                    try simp (maxSteps := 1000000) [runs, gd, step1, need, evu, un, opnds, opv, ev, cst, cst1, cstL, getT, getH, putT, onL, nxt, argT, cellsOf, PV.one, thn, inBlk, jmp, fldP, ldP, ldC, live, Cells.len, Cells.get, Cells.w, sug, ldv, bin, eqF, eq1, ops2, sh2, binv, Tk.agg, stC, apC, rdS, apS, cpC, cpS, mvL, zp, argsP, idx, fillP, toInts, chunks, mkC, ixS, ixA, oidx, slP, sl0, slA, optL, List.append, mxF, bltn, frzA, frz, frzL, frz1, pur1, Cells.pur, PV.scal, scal1, runD, rdO, PV.ids, id1, zids, ety, Eff.on, cnd, minb, and1b, ifmax, ifmin, mxv, sugI, strv, w0, w1, w2, wm1, hsa]
                    repeat' apply And.intro
                    any_goals (try omega)
                    refine hL47 _ ⟨[(0, .ro (.ints .u8 bs)), (5, .ptr 0 0 0 1), (6, .sl 1 0 L.length L.length), (7, .int .i64 (getP bs q (szS s : Nat))), (8, .int .i64 0), (9, .int .i64 (szS s : Nat)), (10, .int .i64 (moS s : Nat)), (40, .int .i64 (g.length : Nat)), (41, .int .i64 (k : Nat)), (11, .sl 2 0 w.length w.length), (12, .int .i64 left), (13, .ptr 3 0 0 1), (14, .int .i64 (getN bs q (szS s : Nat)))], [(0, some ⟨.rows 4 [[.int .u8 s, .int .u8 sh, .int .i64 m, .ro (.ints .i64 g)]], true, 24⟩), (1, some ⟨.rows 1 (L.map fun w => [.ro (.rows 2 (w.map Sc.row))]), false, 47⟩), (2, some ⟨.rows 2 (w.map Sc.row), false, 76⟩), (3, some ⟨.rows 2 [[.int .i64 (getN bs p 4), .int .i64 (acc + getN bs q (szS s : Nat))]], true, 76⟩)], 4⟩ _ ?_ ⟨(e - 1), (acc + getN bs q (szS s : Nat)), (getP bs q (szS s : Nat)), (getN bs q (szS s : Nat)), by omega, by omega, by exact hnx.1, by exact hnx.2, rfl, rfl⟩ ⟨by simp [getT, PV.lo, lo1, heq], by simp [getH, Blk.lo, Cells.lo, lo1], rfl, by omega⟩
                    omega
              · clear hC50
                try simp at hc50
                refine swp_exit ?_
                simp [thn, inBlk]
                refine hK45 _ ?_; clear hK45
                refine swp_seq fun K62 hK62 => ?_
                refine swp_seq fun K63 hK63 => ?_
                refine swp_region ty_ok ?_
                refine runs_cut 2 fun R64 hR64 => ?_
                try simp (maxSteps := 1000000) [runs, gd, step1, need, evu, un, opnds, opv, ev, cst, cst1, cstL, getT, getH, putT, onL, nxt, argT, cellsOf, PV.one, thn, inBlk, jmp, fldP, ldP, ldC, live, Cells.len, Cells.get, Cells.w, sug, ldv, bin, eqF, eq1, ops2, sh2, binv, Tk.agg, stC, apC, rdS, apS, cpC, cpS, mvL, zp, argsP, idx, fillP, toInts, chunks, mkC, ixS, ixA, oidx, slP, sl0, slA, optL, List.append, mxF, bltn, frzA, frz, frzL, frz1, pur1, Cells.pur, PV.scal, scal1, runD, rdO, PV.ids, id1, zids, ety, Eff.on, cnd, minb, and1b, ifmax, ifmin, mxv, sugI, strv, w0, w1, w2, wm1, List.take_succ_cons, List.take_zero, List.drop_succ_cons, List.drop_zero]
                repeat' (first | apply And.intro | intro _)
                any_goals (first | (refine hR64 _ ?_; clear hR64) | (first | omega | (simp only [IntKind.wrap_i64] at *; omega) | (simp_all; done) | (simp_all; omega)))
                refine runs_cut 1 fun R65 hR65 => ?_
                try simp (maxSteps := 1000000) [runs, gd, step1, need, evu, un, opnds, opv, ev, cst, cst1, cstL, getT, getH, putT, onL, nxt, argT, cellsOf, PV.one, thn, inBlk, jmp, fldP, ldP, ldC, live, Cells.len, Cells.get, Cells.w, sug, ldv, bin, eqF, eq1, ops2, sh2, binv, Tk.agg, stC, apC, rdS, apS, cpC, cpS, mvL, zp, argsP, idx, fillP, toInts, chunks, mkC, ixS, ixA, oidx, slP, sl0, slA, optL, List.append, mxF, bltn, frzA, frz, frzL, frz1, pur1, Cells.pur, PV.scal, scal1, runD, rdO, PV.ids, id1, zids, ety, Eff.on, cnd, minb, and1b, ifmax, ifmin, mxv, sugI, strv, w0, w1, w2, wm1, List.take_succ_cons, List.take_zero, List.drop_succ_cons, List.drop_zero]
                refine .inl ⟨_, right19 ⟨getN bs p 4, acc⟩ left, ?_⟩
                try simp (maxSteps := 1000000) [runs, gd, step1, need, evu, un, opnds, opv, ev, cst, cst1, cstL, getT, getH, putT, onL, nxt, argT, cellsOf, PV.one, thn, inBlk, jmp, fldP, ldP, ldC, live, Cells.len, Cells.get, Cells.w, sug, ldv, bin, eqF, eq1, ops2, sh2, binv, Tk.agg, stC, apC, rdS, apS, cpC, cpS, mvL, zp, argsP, idx, fillP, toInts, chunks, mkC, ixS, ixA, oidx, slP, sl0, slA, optL, List.append, mxF, bltn, frzA, frz, frzL, frz1, pur1, Cells.pur, PV.scal, scal1, runD, rdO, PV.ids, id1, zids, ety, Eff.on, cnd, minb, and1b, ifmax, ifmin, mxv, sugI, strv, w0, w1, w2, wm1]
                repeat' (first | apply And.intro | intro _)
                any_goals (first | (refine hR65 _ ?_; clear hR65) | (first | omega | (simp only [IntKind.wrap_i64] at *; omega) | (simp_all; done) | (simp_all; omega)))
                try simp (maxSteps := 1000000) [runs, gd, step1, need, evu, un, opnds, opv, ev, cst, cst1, cstL, getT, getH, putT, onL, nxt, argT, cellsOf, PV.one, thn, inBlk, jmp, fldP, ldP, ldC, live, Cells.len, Cells.get, Cells.w, sug, ldv, bin, eqF, eq1, ops2, sh2, binv, Tk.agg, stC, apC, rdS, apS, cpC, cpS, mvL, zp, argsP, idx, fillP, toInts, chunks, mkC, ixS, ixA, oidx, slP, sl0, slA, optL, List.append, mxF, bltn, frzA, frz, frzL, frz1, pur1, Cells.pur, PV.scal, scal1, runD, rdO, PV.ids, id1, zids, ety, Eff.on, cnd, minb, and1b, ifmax, ifmin, mxv, sugI, strv, w0, w1, w2, wm1, List.take_succ_cons, List.take_zero, List.drop_succ_cons, List.drop_zero]
                repeat' (first | apply And.intro | intro _)
                any_goals (first | (refine hK63 _ ?_; clear hK63) | (first | omega | (simp only [IntKind.wrap_i64] at *; omega) | (simp_all; done) | (simp_all; omega)))
                refine swp_if fun C66 hC66 => ?_
                try simp (maxSteps := 1000000) [runs, gd, step1, need, evu, un, opnds, opv, ev, cst, cst1, cstL, getT, getH, putT, onL, nxt, argT, cellsOf, PV.one, thn, inBlk, jmp, fldP, ldP, ldC, live, Cells.len, Cells.get, Cells.w, sug, ldv, bin, eqF, eq1, ops2, sh2, binv, Tk.agg, stC, apC, rdS, apS, cpC, cpS, mvL, zp, argsP, idx, fillP, toInts, chunks, mkC, ixS, ixA, oidx, slP, sl0, slA, optL, List.append, mxF, bltn, frzA, frz, frzL, frz1, pur1, Cells.pur, PV.scal, scal1, runD, rdO, PV.ids, id1, zids, ety, Eff.on, cnd, minb, and1b, ifmax, ifmin, mxv, sugI, strv, w0, w1, w2, wm1]
                refine hC66 _ (fun hc66 => ?_) (fun hc66 => ?_)
                · clear hC66
                  try simp at hc66
                  refine swp_seq fun K67 hK67 => ?_
                  refine swp_region ty_ok ?_
                  try simp (maxSteps := 1000000) [runs, gd, step1, need, evu, un, opnds, opv, ev, cst, cst1, cstL, getT, getH, putT, onL, nxt, argT, cellsOf, PV.one, thn, inBlk, jmp, fldP, ldP, ldC, live, Cells.len, Cells.get, Cells.w, sug, ldv, bin, eqF, eq1, ops2, sh2, binv, Tk.agg, stC, apC, rdS, apS, cpC, cpS, mvL, zp, argsP, idx, fillP, toInts, chunks, mkC, ixS, ixA, oidx, slP, sl0, slA, optL, List.append, mxF, bltn, frzA, frz, frzL, frz1, pur1, Cells.pur, PV.scal, scal1, runD, rdO, PV.ids, id1, zids, ety, Eff.on, cnd, minb, and1b, ifmax, ifmin, mxv, sugI, strv, w0, w1, w2, wm1]
                  repeat' (first | apply And.intro | intro _)
                  any_goals (first | (refine hK67 _ ?_; clear hK67) | (first | omega | (simp only [IntKind.wrap_i64] at *; omega) | (simp_all; done) | (simp_all; omega)))
                  refine swp_ret ?_
                  simp [runs, gd, step1, need, evu, un, opnds, opv, ev, cst, cst1, cstL, getT, getH, putT, onL, nxt, argT, cellsOf, PV.one, thn, inBlk, jmp, fldP, ldP, ldC, live, Cells.len, Cells.get, Cells.w, sug, ldv, bin, eqF, eq1, ops2, sh2, binv, Tk.agg, stC, apC, rdS, apS, cpC, cpS, mvL, zp, argsP, idx, fillP, toInts, chunks, mkC, ixS, ixA, oidx, slP, sl0, slA, optL, List.append, mxF, bltn, frzA, frz, frzL, frz1, pur1, Cells.pur, PV.scal, scal1, runD, rdO, PV.ids, id1, zids, ety, Eff.on, cnd, minb, and1b, ifmax, ifmin, mxv, sugI, strv, w0, w1, w2, wm1, fnPost, Try.results32, resP, tupOf]
                  have hle := (by assumption : ¬ n = (moS s : Nat) → lenR bs (szS s : Nat) (moS s : Nat) left 41 0 (getP bs p 4) = (acc, q, 0)) (by assumption)
                  rw [get_fail hR (by assumption) (by omega) (by assumption) (by omega) (by omega) (secR_4 he4 hodd (by rw [hle]) (by rw [hle]; exact right_n (k := getN bs p 4) (left := left) (by omega) (odd_inv hodd) (by omega) (by have h := hc66; simpa using h))) (by omega)]; exact ⟨rfl, rfl, rfl⟩
                · clear hC66
                  try simp at hc66
                  refine swp_skip ?_
                  try simp only [thn, inBlk]
                  refine hK62 _ ?_; clear hK62
                  refine swp_seq fun K68 hK68 => ?_
                  have hle := (by assumption : ¬ n = (moS s : Nat) → lenR bs (szS s : Nat) (moS s : Nat) left 41 0 (getP bs p 4) = (acc, q, 0)) (by assumption)
                  have hry := right_y (by have h := hc66; simpa using h)
                  have hsec := secR_5 he4 hodd (by rw [hle]) (by rw [hle]; exact hry)
                  rw [hle] at hsec
                  have hsb : IntKind.i64.wrap (left - acc) = left - acc := w64 (by omega)
                  refine swp_region ty_ok ?_
                  try simp (maxSteps := 1000000) [runs, gd, step1, need, evu, un, opnds, opv, ev, cst, cst1, cstL, getT, getH, putT, onL, nxt, argT, cellsOf, PV.one, thn, inBlk, jmp, fldP, ldP, ldC, live, Cells.len, Cells.get, Cells.w, sug, ldv, bin, eqF, eq1, ops2, sh2, binv, Tk.agg, stC, apC, rdS, apS, cpC, cpS, mvL, zp, argsP, idx, fillP, toInts, chunks, mkC, ixS, ixA, oidx, slP, sl0, slA, optL, List.append, mxF, bltn, frzA, frz, frzL, frz1, pur1, Cells.pur, PV.scal, scal1, runD, rdO, PV.ids, id1, zids, ety, Eff.on, cnd, minb, and1b, ifmax, ifmin, mxv, sugI, strv, w0, w1, w2, wm1, hsb]
                  repeat' (first | apply And.intro | intro _)
                  any_goals (first | (refine hK68 _ ?_; clear hK68) | (first | omega | (simp only [IntKind.wrap_i64] at *; omega) | (simp_all; done) | (simp_all; omega)))
                  refine swp_region ty_ok ?_
                  refine runs_cut 2 fun R69 hR69 => ?_
                  try simp (maxSteps := 1000000) [runs, gd, step1, need, evu, un, opnds, opv, ev, cst, cst1, cstL, getT, getH, putT, onL, nxt, argT, cellsOf, PV.one, thn, inBlk, jmp, fldP, ldP, ldC, live, Cells.len, Cells.get, Cells.w, sug, ldv, bin, eqF, eq1, ops2, sh2, binv, Tk.agg, stC, apC, rdS, apS, cpC, cpS, mvL, zp, argsP, idx, fillP, toInts, chunks, mkC, ixS, ixA, oidx, slP, sl0, slA, optL, List.append, mxF, bltn, frzA, frz, frzL, frz1, pur1, Cells.pur, PV.scal, scal1, runD, rdO, PV.ids, id1, zids, ety, Eff.on, cnd, minb, and1b, ifmax, ifmin, mxv, sugI, strv, w0, w1, w2, wm1, List.take_succ_cons, List.take_zero, List.drop_succ_cons, List.drop_zero]
                  repeat' (first | apply And.intro | intro _)
                  any_goals (first | (refine hR69 _ ?_; clear hR69) | (first | omega | (simp only [IntKind.wrap_i64] at *; omega) | (simp_all; done) | (simp_all; omega)))
                  refine runs_cut 1 fun R70 hR70 => ?_
                  try simp (maxSteps := 1000000) [runs, gd, step1, need, evu, un, opnds, opv, ev, cst, cst1, cstL, getT, getH, putT, onL, nxt, argT, cellsOf, PV.one, thn, inBlk, jmp, fldP, ldP, ldC, live, Cells.len, Cells.get, Cells.w, sug, ldv, bin, eqF, eq1, ops2, sh2, binv, Tk.agg, stC, apC, rdS, apS, cpC, cpS, mvL, zp, argsP, idx, fillP, toInts, chunks, mkC, ixS, ixA, oidx, slP, sl0, slA, optL, List.append, mxF, bltn, frzA, frz, frzL, frz1, pur1, Cells.pur, PV.scal, scal1, runD, rdO, PV.ids, id1, zids, ety, Eff.on, cnd, minb, and1b, ifmax, ifmin, mxv, sugI, strv, w0, w1, w2, wm1, List.take_succ_cons, List.take_zero, List.drop_succ_cons, List.drop_zero]
                  repeat' (first | apply And.intro | intro _)
                  any_goals (first | (refine Or.inl (hR70 _ ?_); clear hR70) | (first | omega | (simp only [IntKind.wrap_i64] at *; omega) | (simp_all; done) | (simp_all; omega)))
                  try simp (maxSteps := 1000000) [runs, gd, step1, need, evu, un, opnds, opv, ev, cst, cst1, cstL, getT, getH, putT, onL, nxt, argT, cellsOf, PV.one, thn, inBlk, jmp, fldP, ldP, ldC, live, Cells.len, Cells.get, Cells.w, sug, ldv, bin, eqF, eq1, ops2, sh2, binv, Tk.agg, stC, apC, rdS, apS, cpC, cpS, mvL, zp, argsP, idx, fillP, toInts, chunks, mkC, ixS, ixA, oidx, slP, sl0, slA, optL, List.append, mxF, bltn, frzA, frz, frzL, frz1, pur1, Cells.pur, PV.scal, scal1, runD, rdO, PV.ids, id1, zids, ety, Eff.on, cnd, minb, and1b, ifmax, ifmin, mxv, sugI, strv, w0, w1, w2, wm1, List.take_succ_cons, List.take_zero, List.drop_succ_cons, List.drop_zero]
                  repeat' apply And.intro
                  any_goals (try omega)
                  refine hL29 _ ⟨[(0, .ro (.ints .u8 bs)), (5, .ptr 0 0 0 1), (6, .sl 1 0 L.length L.length), (7, .int .i64 q), (8, .int .i64 0), (9, .int .i64 (szS s : Nat)), (10, .int .i64 (moS s : Nat)), (40, .int .i64 (g.length : Nat)), (41, .int .i64 (k : Nat)), (11, .sl 2 0 (w ++ [(⟨getN bs p 4, acc⟩ : Sc)]).length (w ++ [(⟨getN bs p 4, acc⟩ : Sc)]).length), (12, .int .i64 (left - acc))], [(0, some ⟨.rows 4 [[.int .u8 s, .int .u8 sh, .int .i64 m, .ro (.ints .i64 g)]], true, 24⟩), (1, some ⟨.rows 1 (L.map fun w => [.ro (.rows 2 (w.map Sc.row))]), false, 47⟩), (2, some ⟨.rows 2 ((w ++ [(⟨getN bs p 4, acc⟩ : Sc)]).map Sc.row), false, 76⟩)], 3⟩ _ ?_ ⟨(f - 1), (left - acc), (q), (w ++ [(⟨getN bs p 4, acc⟩ : Sc)]), by omega, by omega, by (rw [List.length_append]; simp; omega), by exact grp_next (by assumption) (by omega) (by omega) hsec, rfl, rfl⟩ ⟨by simp [getT, PV.lo, lo1, hsb], by simp [getH, Blk.lo, Cells.lo, lo1, Sc.row], rfl, by omega⟩
                  omega
        · clear hC32
          try simp at hc32
          refine swp_exit ?_
          simp [thn, inBlk]
          refine hK27 _ ?_; clear hK27
          refine swp_region ty_ok ?_
          refine runs_cut 2 fun R71 hR71 => ?_
          try simp (maxSteps := 1000000) [runs, gd, step1, need, evu, un, opnds, opv, ev, cst, cst1, cstL, getT, getH, putT, onL, nxt, argT, cellsOf, PV.one, thn, inBlk, jmp, fldP, ldP, ldC, live, Cells.len, Cells.get, Cells.w, sug, ldv, bin, eqF, eq1, ops2, sh2, binv, Tk.agg, stC, apC, rdS, apS, cpC, cpS, mvL, zp, argsP, idx, fillP, toInts, chunks, mkC, ixS, ixA, oidx, slP, sl0, slA, optL, List.append, mxF, bltn, frzA, frz, frzL, frz1, pur1, Cells.pur, PV.scal, scal1, runD, rdO, PV.ids, id1, zids, ety, Eff.on, cnd, minb, and1b, ifmax, ifmin, mxv, sugI, strv, w0, w1, w2, wm1, List.take_succ_cons, List.take_zero, List.drop_succ_cons, List.drop_zero]
          repeat' (first | apply And.intro | intro _)
          any_goals (first | (refine hR71 _ ?_; clear hR71) | (first | omega | (simp only [IntKind.wrap_i64] at *; omega) | (simp_all; done) | (simp_all; omega)))
          refine runs_cut 1 fun R72 hR72 => ?_
          try simp (maxSteps := 1000000) [runs, gd, step1, need, evu, un, opnds, opv, ev, cst, cst1, cstL, getT, getH, putT, onL, nxt, argT, cellsOf, PV.one, thn, inBlk, jmp, fldP, ldP, ldC, live, Cells.len, Cells.get, Cells.w, sug, ldv, bin, eqF, eq1, ops2, sh2, binv, Tk.agg, stC, apC, rdS, apS, cpC, cpS, mvL, zp, argsP, idx, fillP, toInts, chunks, mkC, ixS, ixA, oidx, slP, sl0, slA, optL, List.append, mxF, bltn, frzA, frz, frzL, frz1, pur1, Cells.pur, PV.scal, scal1, runD, rdO, PV.ids, id1, zids, ety, Eff.on, cnd, minb, and1b, ifmax, ifmin, mxv, sugI, strv, w0, w1, w2, wm1, List.take_succ_cons, List.take_zero, List.drop_succ_cons, List.drop_zero]
          repeat' (first | apply And.intro | intro _)
          any_goals (first | (refine Or.inl (hR72 _ ?_); clear hR72) | (first | omega | (simp only [IntKind.wrap_i64] at *; omega) | (simp_all; done) | (simp_all; omega)))
          try simp (maxSteps := 1000000) [runs, gd, step1, need, evu, un, opnds, opv, ev, cst, cst1, cstL, getT, getH, putT, onL, nxt, argT, cellsOf, PV.one, thn, inBlk, jmp, fldP, ldP, ldC, live, Cells.len, Cells.get, Cells.w, sug, ldv, bin, eqF, eq1, ops2, sh2, binv, Tk.agg, stC, apC, rdS, apS, cpC, cpS, mvL, zp, argsP, idx, fillP, toInts, chunks, mkC, ixS, ixA, oidx, slP, sl0, slA, optL, List.append, mxF, bltn, frzA, frz, frzL, frz1, pur1, Cells.pur, PV.scal, scal1, runD, rdO, PV.ids, id1, zids, ety, Eff.on, cnd, minb, and1b, ifmax, ifmin, mxv, sugI, strv, w0, w1, w2, wm1, List.take_succ_cons, List.take_zero, List.drop_succ_cons, List.drop_zero]
          repeat' (first | apply And.intro | intro _)
          any_goals (first | (refine hK25 _ ?_; clear hK25) | (first | omega | (simp only [IntKind.wrap_i64] at *; omega) | (simp_all; done) | (simp_all; omega)))
          refine swp_region ty_ok ?_
          try simp (maxSteps := 1000000) [runs, gd, step1, need, evu, un, opnds, opv, ev, cst, cst1, cstL, getT, getH, putT, onL, nxt, argT, cellsOf, PV.one, thn, inBlk, jmp, fldP, ldP, ldC, live, Cells.len, Cells.get, Cells.w, sug, ldv, bin, eqF, eq1, ops2, sh2, binv, Tk.agg, stC, apC, rdS, apS, cpC, cpS, mvL, zp, argsP, idx, fillP, toInts, chunks, mkC, ixS, ixA, oidx, slP, sl0, slA, optL, List.append, mxF, bltn, frzA, frz, frzL, frz1, pur1, Cells.pur, PV.scal, scal1, runD, rdO, PV.ids, id1, zids, ety, Eff.on, cnd, minb, and1b, ifmax, ifmin, mxv, sugI, strv, w0, w1, w2, wm1]
          repeat' apply And.intro
          any_goals (try omega)
          refine hL21 _ ⟨[(0, .ro (.ints .u8 bs)), (5, .ptr 0 0 0 1), (6, .sl 1 0 (L ++ [w]).length (L ++ [w]).length), (7, .int .i64 p), (8, .int .i64 0), (9, .int .i64 (szS s : Nat)), (10, .int .i64 (moS s : Nat)), (40, .int .i64 (g.length : Nat)), (41, .int .i64 ((k + 1) : Nat))], [(0, some ⟨.rows 4 [[.int .u8 s, .int .u8 sh, .int .i64 m, .ro (.ints .i64 g)]], true, 24⟩), (1, some ⟨.rows 1 ((L ++ [w]).map fun w => [.ro (.rows 2 (w.map Sc.row))]), false, 47⟩)], 2⟩ _ ?_ ⟨(k + 1), (p), (L ++ [w]), by omega, by omega, by (rw [List.length_append]; simp; omega), by exact all_next (by assumption) (by omega) (by assumption) (by have h := hc32; omega) (by omega), rfl, rfl⟩ ⟨by simp [getT, PV.lo, lo1, hkw], by simp [getH, Blk.lo, Cells.lo, lo1], rfl, by omega⟩
          omega
      · clear hC24
        try simp at hc24
        refine swp_exit ?_
        simp [thn, inBlk]
        refine hK19 _ ?_; clear hK19
        refine swp_seq fun K73 hK73 => ?_
        refine swp_region ty_ok ?_
        try simp (maxSteps := 1000000) [runs, gd, step1, need, evu, un, opnds, opv, ev, cst, cst1, cstL, getT, getH, putT, onL, nxt, argT, cellsOf, PV.one, thn, inBlk, jmp, fldP, ldP, ldC, live, Cells.len, Cells.get, Cells.w, sug, ldv, bin, eqF, eq1, ops2, sh2, binv, Tk.agg, stC, apC, rdS, apS, cpC, cpS, mvL, zp, argsP, idx, fillP, toInts, chunks, mkC, ixS, ixA, oidx, slP, sl0, slA, optL, List.append, mxF, bltn, frzA, frz, frzL, frz1, pur1, Cells.pur, PV.scal, scal1, runD, rdO, PV.ids, id1, zids, ety, Eff.on, cnd, minb, and1b, ifmax, ifmin, mxv, sugI, strv, w0, w1, w2, wm1]
        repeat' (first | apply And.intro | intro _)
        any_goals (first | (refine hK73 _ ?_; clear hK73) | (first | omega | (simp only [IntKind.wrap_i64] at *; omega) | (simp_all; done) | (simp_all; omega)))
        refine swp_ret ?_
        simp [runs, gd, step1, need, evu, un, opnds, opv, ev, cst, cst1, cstL, getT, getH, putT, onL, nxt, argT, cellsOf, PV.one, thn, inBlk, jmp, fldP, ldP, ldC, live, Cells.len, Cells.get, Cells.w, sug, ldv, bin, eqF, eq1, ops2, sh2, binv, Tk.agg, stC, apC, rdS, apS, cpC, cpS, mvL, zp, argsP, idx, fillP, toInts, chunks, mkC, ixS, ixA, oidx, slP, sl0, slA, optL, List.append, mxF, bltn, frzA, frz, frzL, frz1, pur1, Cells.pur, PV.scal, scal1, runD, rdO, PV.ids, id1, zids, ety, Eff.on, cnd, minb, and1b, ifmax, ifmin, mxv, sugI, strv, w0, w1, w2, wm1, fnPost, Try.results32, resP, tupOf]
        rw [get_done hR (by assumption) (by omega)]; exact ⟨rfl, rfl, rfl⟩

end Go.Proofs.Ytkhjiabenifplaa

