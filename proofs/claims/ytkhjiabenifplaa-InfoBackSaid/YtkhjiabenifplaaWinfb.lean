import Derived.Test.YtkhjiabenifplaaWb
import Derived.Test.YtkhjiabenifplaaTyi
import Derived.Test.YtkhjiabenifplaaWband
import Derived.Test.YtkhjiabenifplaaWinfo
import Derived.Test.YtkhjiabenifplaaWinfo2
import Derived.Test.YtkhjiabenifplaaWbits
import Derived.Test.YtkhjiabenifplaaWinfp
import Derived.Test.YtkhjiabenifplaaWrd
import Derived.Test.YtkhjiabenifplaaWinfg
import Derived.Test.YtkhjiabenifplaaWinfl
import Derived.Test.YtkhjiabenifplaaWinfm
namespace Go.Proofs.Ytkhjiabenifplaa
set_option linter.unusedVariables false
set_option linter.unusedSimpArgs false
set_option maxRecDepth 10000
open Go Go.Pv


open Go.RowKit
theorem bit1 {x : Int} (h : 0 ≤ x ∧ x < 2) : bitsOf x.toNat 1 = [x] := by
  have : x = 0 ∨ x = 1 := by omega
  rcases this with rfl | rfl <;> rfl
theorem grp_app : ∀ (l r : List Int) (w : Int), (∀ x ∈ l, 1 ≤ x) → 0 ≤ w → grp (l ++ r) w = if w < l.sum then grp l w else l.length + grp r (w - l.sum)
  | [], r, w, _, h0 => by simp [show ¬ w < 0 by omega]
  | x :: l, r, w, h, h0 => by
    have hx := h x (by simp)
    have hl := sum_len (g := l) fun y hy => h y (by simp [hy])
    rw [List.cons_append, List.sum_cons]
    simp only [grp, List.length_cons]
    by_cases hw : x ≤ w
    · rw [if_pos hw, if_pos hw, grp_app l r (w - x) (fun y hy => h y (by simp [hy])) (by omega)]
      by_cases h2 : w - x < l.sum
      · rw [if_pos h2, if_pos (by omega)]
      · rw [if_neg h2, if_neg (by omega), show w - x - l.sum = w - (x + l.sum) by omega]; omega
    · rw [if_neg hw, if_neg hw, if_pos (by omega)]
theorem grp_snoc {t : List Int} {a w : Int} (h : ∀ x ∈ t, 1 ≤ x) (h0 : 0 ≤ w) (hw : w < t.sum + a) : grp (t ++ [a]) w = if w < t.sum then grp t w else t.length := by
  rw [grp_app t [a] w h h0]
  split
  · rfl
  · simp only [grp]
    rw [if_neg (by omega), Nat.add_zero]
theorem incL_snoc (t : List Int) (a : Int) : incL (t ++ [a]) = t ++ [IntKind.i64.wrap (a + 1)] := by
  simp [incL]
def cntX (x : Nat → Int) : Nat → Nat
  | 0 => 0
  | w + 1 => cntX x w + (if x w = 1 then 0 else 1)
theorem gB_ok (x : Nat → Int) : ∀ k ≤ 1000, ∃ (t : List Int) (a : Int), gB x k = t ++ [a] ∧ (∀ y ∈ t, 1 ≤ y) ∧ 1 ≤ a ∧ t.sum + a = k + 1 ∧ t.length = cntX x k ∧ ∀ w : Nat, w ≤ k → grp (t ++ [a]) (w : Nat) = cntX x w
  | 0, _ => ⟨[], 1, rfl, by simp, by omega, by simp, rfl, fun w hw => by rw [show w = 0 by omega]; rfl⟩
  | k + 1, hk => by
    obtain ⟨t, a, h1, h2, h3, h4, h5, h6⟩ := gB_ok x k (by omega)
    have hs := sum_len h2
    by_cases hx : x k = 1
    · refine ⟨t, a + 1, ?_, h2, by omega, by push_cast; omega, by rw [cntX, if_pos hx, h5]; rfl, fun w hw => ?_⟩
      · rw [gB, if_pos hx, h1, incL_snoc, w64 (by omega)]
      · rw [grp_snoc h2 (by omega) (by omega)]
        by_cases hw2 : w ≤ k
        · rw [← h6 w hw2, grp_snoc h2 (by omega) (by omega)]
        · have : w = k + 1 := by omega
          subst this
          rw [if_neg (by omega), h5, cntX, if_pos hx, Nat.add_zero]
    · have h7 : ∀ y ∈ t ++ [a], 1 ≤ y := by
        intro y hy
        rw [List.mem_append, List.mem_singleton] at hy
        rcases hy with hy | rfl
        · exact h2 y hy
        · exact h3
      have h8 : (t ++ [a]).sum = k + 1 := by rw [List.sum_append]; simpa using h4
      refine ⟨t ++ [a], 1, by rw [gB, if_neg hx, h1], h7, by omega, by rw [h8]; push_cast; rfl, by rw [List.length_append, h5, cntX, if_neg hx]; rfl, fun w hw => ?_⟩
      rw [grp_snoc h7 (by omega) (by omega), h8]
      by_cases hw2 : w ≤ k
      · rw [if_pos (by omega), h6 w hw2]
      · have : w = k + 1 := by omega
        subst this
        rw [if_neg (by omega), List.length_append, h5, cntX, if_neg hx]
        rfl
theorem gB_may (x : Nat → Int) : (∀ y ∈ gB x 7, 1 ≤ y) ∧ (gB x 7).sum = 8 ∧ ∀ w : Nat, w ≤ 7 → grp (gB x 7) (w : Nat) = cntX x w := by
  obtain ⟨t, a, h1, h2, h3, h4, h5, h6⟩ := gB_ok x 7 (by omega)
  rw [h1]
  refine ⟨fun y hy => ?_, by rw [List.sum_append]; simpa using h4, h6⟩
  rw [List.mem_append, List.mem_singleton] at hy
  rcases hy with hy | rfl
  · exact h2 y hy
  · exact h3
theorem cntX_eq (x : Nat → Int) (w : Nat) : cntX x w = cntX x (w + 1) ↔ x w = 1 := by
  rw [cntX]
  split <;> simp_all
theorem grpB_gB (x : Nat → Int) (hx : ∀ i, 0 ≤ x i ∧ x i < 2) : grpB (gB x 7) 7 = (List.range 7).map x := by
  unfold grpB
  refine List.map_congr_left fun i hi => ?_
  have hi' := List.mem_range.1 hi
  obtain ⟨_, _, h⟩ := gB_may x
  have h1 := h i (by omega)
  have h2 := h (i + 1) (by omega)
  push_cast at h2
  rw [h1, h2]
  have := cntX_eq x i
  have hxi := hx i
  split
  · rename_i he; exact (this.1 he).symm
  · rename_i he
    have : ¬ x i = 1 := fun h => he (this.2 h)
    omega
theorem grp_uniq {g h : List Int} (hg : ∀ x ∈ g, 1 ≤ x) (hh : ∀ x ∈ h, 1 ≤ x) (hs : g.sum = h.sum) (he : ∀ v : Nat, (v : Int) < g.sum → grp g (v : Nat) = grp h (v : Nat)) : g = h := by
  have hcnt : ∀ k, cntG g g.sum.toNat k = cntG h h.sum.toNat k := by
    intro k
    unfold cntG
    rw [← hs]
    congr 1
    refine List.filter_congr fun v hv => ?_
    have := List.mem_range.1 hv
    rw [he v (by omega)]
  have hno : ∀ (g : List Int), (∀ x ∈ g, 1 ≤ x) → ∀ k, g.length ≤ k → cntG g g.sum.toNat k = 0 := by
    intro g hg k hk
    unfold cntG
    rw [List.length_eq_zero_iff, List.filter_eq_nil_iff]
    intro v hv
    have := List.mem_range.1 hv
    have := grp_lt g v hg (by omega) (by omega)
    simp
    omega
  have hlen : g.length = h.length := by
    rcases Nat.lt_trichotomy g.length h.length with hl | hl | hl
    · have h1 := cntG_all h g.length hh hl
      have h2 := of_all hh hl
      rw [← hcnt, hno g hg _ (Nat.le_refl _)] at h1
      omega
    · exact hl
    · have h1 := cntG_all g h.length hg hl
      have h2 := of_all hg hl
      rw [hcnt, hno h hh _ (Nat.le_refl _)] at h1
      omega
  refine List.ext_getElem hlen fun i h1 h2 => ?_
  have e1 := cntG_all g i hg h1
  have e2 := cntG_all h i hh h2
  rw [hcnt, e2, List.getElem?_eq_getElem h1, List.getElem?_eq_getElem h2] at e1
  exact e1.symm
theorem gB_one {g : List Int} (hg : ∀ x ∈ g, 1 ≤ x) (hs : g.sum = 8) (x : Nat → Int) (hx : ∀ i : Nat, x i = if grp g (i : Nat) = grp g ((i : Nat) + 1) then 1 else 0) : gB x 7 = g := by
  obtain ⟨h1, h2, h3⟩ := gB_may x
  refine grp_uniq h1 hg (by rw [h2, hs]) fun v hv => ?_
  rw [h3 v (by omega)]
  have : ∀ v : Nat, cntX x v = grp g (v : Nat) := by
    intro v
    induction v with
    | zero => exact (grp_zero g hg).symm
    | succ v ih =>
      have := grp_next g (v : Nat) hg (by omega)
      rw [cntX, ih, hx]
      push_cast
      by_cases he : grp g (v : Nat) = grp g ((v : Nat) + 1)
      · rw [if_pos he, if_pos rfl, he, Nat.add_zero]
      · rw [if_neg he, if_neg (by omega)]; omega
  exact this v
theorem u8_id {z : Int} (h : 0 ≤ z ∧ z ≤ 255) : IntKind.u8.wrap z = z := by
  rw [IntKind.wrap_u8]; omega
theorem or_zero {a b : Int} (ha : 0 ≤ a ∧ a < 2) (hb : 0 ≤ b ∧ b < 2) : IntKind.i64.wrap (((((a % 2 ^ IntKind.i64.bits).toNat ||| (b % 2 ^ IntKind.i64.bits).toNat : Nat)) : Int)) = 0 ↔ a = 0 ∧ b = 0 := by
  have h1 : a = 0 ∨ a = 1 := by omega
  have h2 : b = 0 ∨ b = 1 := by omega
  rcases h1 with rfl | rfl <;> rcases h2 with rfl | rfl <;> decide
def nI (s sh m : Int) (g : List Int) : Nat → Nat
  | 0 => 0
  | 1 => s.toNat
  | 2 => sh.toNat
  | 3 => m.toNat
  | i + 4 => if s = 2 ∧ grp g (i : Nat) = grp g ((i : Nat) + 1) then 1 else 0
def Bn (z : Nat → Int) (n : Nat → Nat) : Nat → List Int
  | 0 => []
  | k + 1 => Bn z n k ++ bitsOf (n k) (z k).toNat
theorem infB_s {s sh m : Int} {g : List Int} (h : s = 2) : infB s sh m g = Bn (zI 4) (nI s sh m g) 11 := by
  have e : ∀ i : Nat, bitsOf (nI s sh m g (i + 4)) 1 = [if grp g (i : Nat) = grp g ((i : Nat) + 1) then 1 else 0] := by
    intro i
    simp only [nI, h, true_and]
    split <;> rfl
  have e2 : Bn (zI 4) (nI s sh m g) 11 = [] ++ bitsOf 0 1 ++ bitsOf s.toNat 2 ++ bitsOf sh.toNat 1 ++ bitsOf m.toNat 4 ++ bitsOf (nI s sh m g (0 + 4)) 1 ++ bitsOf (nI s sh m g (1 + 4)) 1 ++ bitsOf (nI s sh m g (2 + 4)) 1 ++ bitsOf (nI s sh m g (3 + 4)) 1 ++ bitsOf (nI s sh m g (4 + 4)) 1 ++ bitsOf (nI s sh m g (5 + 4)) 1 ++ bitsOf (nI s sh m g (6 + 4)) 1 := rfl
  rw [e2, e, e, e, e, e, e, e, infB, if_pos h]
  simp [grpB, List.range_succ]
theorem infB_l {s sh m : Int} {g : List Int} (h : ¬ s = 2) : infB s sh m g = Bn (zI 6) (nI s sh m g) 5 := by
  have e : nI s sh m g (0 + 4) = 0 := by
    simp only [nI, h, false_and]
    rfl
  have e2 : Bn (zI 6) (nI s sh m g) 5 = [] ++ bitsOf 0 1 ++ bitsOf s.toNat 2 ++ bitsOf sh.toNat 1 ++ bitsOf m.toNat 6 ++ bitsOf (nI s sh m g (0 + 4)) 1 := rfl
  rw [e2, e, infB, if_neg h]
  simp
theorem qG_n {bs : List Int} {at_ : Int} {k s : Nat} (hp : ∀ y ∈ bs, 0 ≤ y) (hz : zI (cG bs at_) k = s) : 0 ≤ (qG bs at_ (k + 1)).1 ∧ (qG bs at_ (k + 1)).1 < ((2 ^ s : Nat) : Int) := rdQ_n hp hz
theorem infB_len {s sh m : Int} {g : List Int} : (infB s sh m g).length = if s = 2 then 15 else 11 := by
  unfold infB
  split <;> simp [bitsOf_len, grpB_len]
/-- What is got without an error may be, and is put as these bits. -/
theorem getI_ok {rate : Int} {bs : List Int} {at_ : Int} (hp : ∀ y ∈ bs, 0 ≤ y) (h : (getI rate bs at_).2.2.2.2.2 = 0) : ∃ s sh m g nx, getI rate bs at_ = (s, sh, m, g, nx, 0) ∧ chI rate s sh m g = 0 ∧ (0 ≤ s ∧ s ≤ 255) ∧ (0 ≤ sh ∧ sh ≤ 255) ∧ 0 ≤ at_ ∧ nx = at_ + ((infB s sh m g).length : Nat) ∧ nx ≤ bs.length ∧ (bs.drop at_.toNat).take (infB s sh m g).length = infB s sh m g ∧ g.length ≤ 8 := by
  by_cases h0 : eA rate = 0
  · by_cases he : (qG bs at_ (kG bs at_)).2.2 = 0
    · by_cases ho : oG bs at_ = 0 ∧ chI rate (sG bs at_) (IntKind.u8.wrap (qG bs at_ 3).1) (qG bs at_ 4).1 (gG bs at_) = 0
      · have hq := getI_4 h0 he ho
        have n1 := qG_n (at_ := at_) (k := 0) (s := 1) hp rfl
        have n2 := qG_n (at_ := at_) (k := 1) (s := 2) hp rfl
        have n3 := qG_n (at_ := at_) (k := 2) (s := 1) hp rfl
        have nk : ∀ i, 0 ≤ (qG bs at_ (5 + i)).1 ∧ (qG bs at_ (5 + i)).1 < 2 := fun i => by
          have := qG_n (at_ := at_) (k := i + 4) (s := 1) hp rfl
          rw [show 5 + i = i + 4 + 1 by omega]
          exact this
        have es : sG bs at_ = (qG bs at_ 2).1 := by rw [← qG_s, u8_id]; simp only [Nat.zero_add, Nat.reduceAdd] at n2; omega
        have esh : IntKind.u8.wrap (qG bs at_ 3).1 = (qG bs at_ 3).1 := by rw [u8_id]; simp only [Nat.zero_add, Nat.reduceAdd] at n3; omega
        simp only [Nat.zero_add, Nat.reduceAdd] at n1 n2 n3
        refine ⟨_, _, _, _, _, hq, ho.2, by rw [es]; omega, by rw [esh]; omega, ?_⟩
        rw [infB_len]
        by_cases hs : sG bs at_ = 2
        · have hc : cG bs at_ = 4 := if_pos hs
          have n4 := qG_n (at_ := at_) (k := 3) (s := 4) hp (by rw [hc]; rfl)
          simp only [Nat.reduceAdd] at n4
          rw [kG_s hs] at he
          have hr := rdQ_ok (z := zI (cG bs at_)) hp (zI_bd (.inl hc)) 11 (by omega) he
          obtain ⟨r1, r2, r3, r4⟩ := hr
          have hT : rdT (zI (cG bs at_)) 11 = 15 := by rw [hc]; rfl
          rw [hT] at r2 r3 r4
          have hg := gB_may fun i => (qG bs at_ (5 + i)).1
          have hgb := grpB_gB (fun i => (qG bs at_ (5 + i)).1) nk
          have h1 := ho.1
          rw [oG_s hs] at h1
          refine ⟨r1, by rw [kG_s hs, if_pos hs]; exact r2, by rw [kG_s hs]; exact (show (rdQ bs (zI (cG bs at_)) at_ 11).2.1 ≤ _ by rw [r2]; exact r3), ?_, ?_⟩
          · rw [if_pos hs, r4]
            have e2 : rdB bs (zI 4) at_ 11 = [] ++ bitsOf (rdQ bs (zI 4) at_ 1).1.toNat 1 ++ bitsOf (rdQ bs (zI 4) at_ 2).1.toNat 2 ++ bitsOf (rdQ bs (zI 4) at_ 3).1.toNat 1 ++ bitsOf (rdQ bs (zI 4) at_ 4).1.toNat 4 ++ bitsOf (rdQ bs (zI 4) at_ (5 + 0)).1.toNat 1 ++ bitsOf (rdQ bs (zI 4) at_ (5 + 1)).1.toNat 1 ++ bitsOf (rdQ bs (zI 4) at_ (5 + 2)).1.toNat 1 ++ bitsOf (rdQ bs (zI 4) at_ (5 + 3)).1.toNat 1 ++ bitsOf (rdQ bs (zI 4) at_ (5 + 4)).1.toNat 1 ++ bitsOf (rdQ bs (zI 4) at_ (5 + 5)).1.toNat 1 ++ bitsOf (rdQ bs (zI 4) at_ (5 + 6)).1.toNat 1 := rfl
            rw [← hc] at e2
            rw [e2, ← qG, bit1 (nk 0), bit1 (nk 1), bit1 (nk 2), bit1 (nk 3), bit1 (nk 4), bit1 (nk 5), bit1 (nk 6), infB, if_pos hs, gG_s hs, hgb, esh, es, h1]
            simp [List.range_succ]
          · rw [gG_s hs]
            have := (gB_len (fun i => (qG bs at_ (5 + i)).1) 7).2
            omega
        · have hc : cG bs at_ = 6 := if_neg hs
          rw [kG_l hs] at he
          have hr := rdQ_ok (z := zI (cG bs at_)) hp (zI_bd (.inr hc)) 5 (by omega) he
          obtain ⟨r1, r2, r3, r4⟩ := hr
          have hT : rdT (zI (cG bs at_)) 5 = 11 := by rw [hc]; rfl
          rw [hT] at r2 r3 r4
          have h1 := ho.1
          rw [oG_l hs] at h1
          have n5 := nk 0
          rw [Nat.add_zero] at n5
          have h2 := (or_zero (by omega) n5).1 h1
          refine ⟨r1, by rw [kG_l hs, if_neg hs]; exact r2, by rw [kG_l hs]; exact (show (rdQ bs (zI (cG bs at_)) at_ 5).2.1 ≤ _ by rw [r2]; exact r3), ?_, by rw [gG_l hs]; simp⟩
          rw [if_neg hs, r4]
          have e2 : rdB bs (zI 6) at_ 5 = [] ++ bitsOf (rdQ bs (zI 6) at_ 1).1.toNat 1 ++ bitsOf (rdQ bs (zI 6) at_ 2).1.toNat 2 ++ bitsOf (rdQ bs (zI 6) at_ 3).1.toNat 1 ++ bitsOf (rdQ bs (zI 6) at_ 4).1.toNat 6 ++ bitsOf (rdQ bs (zI 6) at_ 5).1.toNat 1 := rfl
          rw [← hc] at e2
          rw [e2, ← qG, infB, if_neg hs, esh, es, h2.1, h2.2]
          simp
      · rw [getI_3 h0 he (Classical.not_and_iff_not_or_not.1 ho)] at h
        cases h
    · rw [getI_2 h0 he] at h
      exact absurd h he
  · rw [getI_1 h0] at h
    exact absurd h h0
theorem getI_no {rate : Int} {bs : List Int} {at_ : Int} (h : ¬ (getI rate bs at_).2.2.2.2.2 = 0) : getI rate bs at_ = (0, 0, 0, [], 0, (getI rate bs at_).2.2.2.2.2) := by
  by_cases h0 : eA rate = 0
  · by_cases he : (qG bs at_ (kG bs at_)).2.2 = 0
    · by_cases ho : oG bs at_ = 0 ∧ chI rate (sG bs at_) (IntKind.u8.wrap (qG bs at_ 3).1) (qG bs at_ 4).1 (gG bs at_) = 0
      · rw [getI_4 h0 he ho] at h
        exact absurd rfl h
      · rw [getI_3 h0 he (Classical.not_and_iff_not_or_not.1 ho)]
    · rw [getI_2 h0 he]
  · rw [getI_1 h0]
theorem two_pow4 {m : Int} (h : 0 ≤ m ∧ m ≤ 15) : m.toNat < 2 ^ 4 := by simp; omega
theorem two_pow6 {m : Int} (h : 0 ≤ m ∧ m ≤ 63) : m.toNat < 2 ^ 6 := by simp; omega
/-- What was put is got, whatever stands behind. -/
theorem getI_back {rate s sh m : Int} {g be : List Int} (hz : chI rate s sh m g = 0) (h0 : 0 ≤ s ∧ 0 ≤ sh) : getI rate (infB s sh m g ++ be) 0 = (s, sh, m, g, ((infB s sh m g).length : Int), 0) := by
  obtain ⟨hr, hs3, hsh, hm0, hmM, hok, hmay, hm11⟩ := chI_zero hz
  have hM1 := MB_bd rate (decide (s = 2))
  have hM2 := MB_short rate
  have hea : eA rate = 0 := eA_yes (by omega)
  by_cases hs : s = 2
  · have hn : ∀ i, nI s sh m g i < 2 ^ (zI 4 i).toNat := by
      intro i
      match i with
      | 0 => simp [nI, zI]
      | 1 => show s.toNat < 4; omega
      | 2 => show sh.toNat < 2; omega
      | 3 => exact two_pow4 (by rw [hs] at hmM; simp only [decide_true] at hmM; omega)
      | i + 4 => simp only [nI, zI]; split <;> decide
    have hb := rdQ_back (zI_bd (.inl rfl)) hn (Bn (zI 4) (nI s sh m g)) rfl (fun _ => rfl) [] be 11
    simp only [List.nil_append, ← infB_s hs, List.length_nil, Int.natCast_zero, Int.zero_add] at hb
    have hsg : sG (infB s sh m g ++ be) 0 = 2 := by
      have := (hb 2 (by omega)).2 (by omega)
      have e : (rdQ (infB s sh m g ++ be) (zI 6) 0 2) = (rdQ (infB s sh m g ++ be) (zI 4) 0 2) := rfl
      rw [sG, e, this, u8_id (by simp [nI]; omega)]
      simp [nI]
      omega
    have hc : cG (infB s sh m g ++ be) 0 = 4 := if_pos hsg
    have hq : ∀ k, qG (infB s sh m g ++ be) 0 k = rdQ (infB s sh m g ++ be) (zI 4) 0 k := fun k => by rw [qG, hc]
    have v : ∀ k, k < 11 → (qG (infB s sh m g ++ be) 0 (k + 1)).1 = nI s sh m g k := fun k hk => by
      rw [hq]
      exact (hb (k + 1) (by omega)).2 (by omega)
    have hg := okG_pos hok
    rw [if_pos hs] at hg
    have hgb : gB (fun i => (qG (infB s sh m g ++ be) 0 (5 + i)).1) 7 = g := by
      have h7 : ∀ x y : Nat → Int, (∀ i < 7, x i = y i) → ∀ k ≤ 7, gB x k = gB y k := by
        intro x y hxy k hk
        induction k with
        | zero => rfl
        | succ k ih => rw [gB, gB, ih (by omega), hxy k (by omega)]
      rw [h7 _ (fun i => if grp g (i : Nat) = grp g ((i : Nat) + 1) then 1 else 0) (fun i hi => ?_) 7 (by omega)]
      · exact gB_one hg.1 hg.2 _ fun i => rfl
      · have := v (i + 4) (by omega)
        rw [show 5 + i = i + 4 + 1 by omega, this]
        simp only [nI, hs, true_and]
        split <;> rfl
    have e11 := (hb 11 (by omega)).1
    have h3 : IntKind.u8.wrap (qG (infB s sh m g ++ be) 0 3).1 = sh := by
      rw [v 2 (by omega), u8_id (by simp [nI]; omega)]
      simp [nI]; omega
    have h4 : (qG (infB s sh m g ++ be) 0 4).1 = m := by
      rw [v 3 (by omega)]
      simp [nI]; omega
    rw [getI_4 hea (by rw [kG_s hsg, hq, e11]) ⟨by rw [oG_s hsg, v 0 (by omega)]; rfl, by rw [hsg, h3, h4, gG_s hsg, hgb, ← hs]; exact hz⟩, kG_s hsg, hq 11, e11, hsg, h3, h4, gG_s hsg, hgb, infB_len, if_pos hs, hs]
    rfl
  · have hn : ∀ i, nI s sh m g i < 2 ^ (zI 6 i).toNat := by
      intro i
      match i with
      | 0 => simp [nI, zI]
      | 1 => show s.toNat < 4; omega
      | 2 => show sh.toNat < 2; omega
      | 3 => exact two_pow6 (by omega)
      | i + 4 => simp only [nI, zI]; split <;> decide
    have hb := rdQ_back (zI_bd (.inr rfl)) hn (Bn (zI 6) (nI s sh m g)) rfl (fun _ => rfl) [] be 5
    simp only [List.nil_append, ← infB_l hs, List.length_nil, Int.natCast_zero, Int.zero_add] at hb
    have hsg : sG (infB s sh m g ++ be) 0 = s := by
      have := (hb 2 (by omega)).2 (by omega)
      rw [sG, this, u8_id (by simp [nI]; omega)]
      simp [nI]
      omega
    have hs' : ¬ sG (infB s sh m g ++ be) 0 = 2 := by rw [hsg]; exact hs
    have hc : cG (infB s sh m g ++ be) 0 = 6 := if_neg hs'
    have hq : ∀ k, qG (infB s sh m g ++ be) 0 k = rdQ (infB s sh m g ++ be) (zI 6) 0 k := fun k => by rw [qG, hc]
    have v : ∀ k, k < 5 → (qG (infB s sh m g ++ be) 0 (k + 1)).1 = nI s sh m g k := fun k hk => by
      rw [hq]
      exact (hb (k + 1) (by omega)).2 (by omega)
    have e5 := (hb 5 (by omega)).1
    have h3 : IntKind.u8.wrap (qG (infB s sh m g ++ be) 0 3).1 = sh := by
      rw [v 2 (by omega), u8_id (by simp [nI]; omega)]
      simp [nI]; omega
    have h4 : (qG (infB s sh m g ++ be) 0 4).1 = m := by
      rw [v 3 (by omega)]
      simp [nI]; omega
    have h5 : (qG (infB s sh m g ++ be) 0 5).1 = 0 := by
      rw [v 4 (by omega)]
      simp [nI, hs]
    have hg1 : g = [1] := by
      rw [okG_n hs, decide_eq_true_eq] at hok
      exact hok
    have ho : oG (infB s sh m g ++ be) 0 = 0 := by
      rw [oG_l hs']
      exact (or_zero (by rw [v 0 (by omega)]; simp [nI]) (by rw [h5]; omega)).2 ⟨by rw [v 0 (by omega)]; rfl, h5⟩
    rw [getI_4 hea (by rw [kG_l hs', hq, e5]) ⟨ho, by rw [hsg, h3, h4, gG_l hs', ← hg1]; exact hz⟩, kG_l hs', hq 5, e5, hsg, h3, h4, gG_l hs', infB_len, if_neg hs, hg1]
    rfl

end Go.Proofs.Ytkhjiabenifplaa
