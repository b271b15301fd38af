import Derived.Test.YtmkgfgdipkagbaaWb
import Derived.Test.YtmkgfgdipkagbaaTyl
import Derived.Test.YtmkgfgdipkagbaaPvy
import Derived.Test.YtmkgfgdipkagbaaLband
import Derived.Test.YtmkgfgdipkagbaaLinfo
import Derived.Test.YtmkgfgdipkagbaaLinfo2
import Derived.Test.YtmkgfgdipkagbaaLbits
import Derived.Test.YtmkgfgdipkagbaaLtns
import Derived.Test.YtmkgfgdipkagbaaLtnp
import Derived.Test.YtmkgfgdipkagbaaLtnl
import Derived.Test.YtmkgfgdipkagbaaLlan
import Derived.Test.YtmkgfgdipkagbaaLlan2
import Derived.Test.YtmkgfgdipkagbaaLlan3
import Derived.Test.YtmkgfgdipkagbaaLlan4
namespace Go.Proofs.Ytmkgfgdipkagbaa
set_option linter.unusedVariables false
set_option linter.unusedSimpArgs false
set_option maxRecDepth 10000
open Go Go.Pv


open Go.RowKit
theorem gr_len {g : List Int} {se : List (List Sc)} {st : List (List Int)} {tn : List (List Fl)} {ln : List Int} (h : grC g se st tn ln = false) : LenOk g se st tn := by
  obtain ⟨h1, h2, h3, h4, _, h6, h7, h8⟩ := grC_no h
  exact ⟨⟨by omega, by omega, by omega, by omega⟩, fun w hw => by have := h6 w hw; omega, fun w hw => by have := h7 w hw; omega, fun w hw => ⟨by have := (h8 w hw).1; omega, fun f hf => by have := (h8 w hw).2 f hf; omega⟩⟩
theorem chL_zero {rate ga s sh m : Int} {g : List Int} {se : List (List Sc)} {st : List (List Int)} {tn : List (List Fl)} {ln : List Int} (h : chL rate ga s sh m g se st tn ln = 0) :
    chI rate s sh m g = 0 ∧ (0 ≤ ga ∧ ga ≤ 255) ∧ secB m g se = true ∧ stpB ga m g se st = true ∧ filA s (winI s sh m g) tn = true ∧ linC rate s m g se ln = true := by
  unfold chL at h
  split at h
  · next h0 =>
    split at h
    · next h1 =>
      obtain ⟨h1, h2, h3, h4, h5⟩ := h1
      rw [Bool.and_eq_true, decide_eq_true_eq, decide_eq_true_eq] at h1
      exact ⟨h0, h1, h2, h3, h4, h5⟩
    · cases h
  · contradiction
theorem chI_len {rate s sh m : Int} {g : List Int} (h : chI rate s sh m g = 0) : 1 ≤ g.length := by
  obtain ⟨_, _, _, _, _, hok, _, _⟩ := chI_zero h
  have := (okG_pos hok).2
  cases g with
  | nil => revert this; split <;> simp
  | cons => simp
theorem secB_true {m : Int} {g : List Int} {se : List (List Sc)} (h : secB m g se = true) : se.length = g.length ∧ ∀ w ∈ se, (∀ x ∈ w, badS x = false) ∧ (w.map Sc.len).sum = m ∧ w.length ≤ 40 := by
  unfold secB at h
  rw [Bool.and_eq_true, decide_eq_true_eq, List.all_eq_true] at h
  refine ⟨h.1, fun w hw => ?_⟩
  have := h.2 w hw
  unfold secL lenS at this
  rw [List.take_length, Bool.and_eq_true, Bool.and_eq_true, decide_eq_true_eq, decide_eq_true_eq, Bool.not_eq_true', List.any_eq_false] at this
  exact ⟨fun x hx => by simpa using this.1 x hx, this.2⟩
theorem bkL_in : ∀ {l : List Sc} (_ : ∀ x ∈ l, badS x = false) {b : Int}, 0 ≤ b → b < (l.map Sc.len).sum → (bkL l b).2 = 0 ∧ 0 ≤ (bkL l b).1 ∧ ((bkL l b).1 ≤ 11 ∨ (bkL l b).1 = 13)
  | [], _, b, h0, h1 => by simp at h1; omega
  | x :: l, h, b, h0, h1 => by
    have hx := badS_no (h x (by simp))
    simp only [List.map_cons, List.sum_cons] at h1
    rw [bkL, if_neg (by omega)]
    split
    · exact ⟨rfl, hx.2⟩
    · exact bkL_in (fun y hy => h y (by simp [hy])) (by omega) (by omega)
theorem bkL_out : ∀ {l : List Sc} (_ : ∀ x ∈ l, badS x = false) {b : Int}, (l.map Sc.len).sum ≤ b → bkL l b = (0, 2)
  | [], _, b, h1 => rfl
  | x :: l, h, b, h1 => by
    have hx := badS_no (h x (by simp))
    have hs : 0 ≤ (l.map Sc.len).sum := by
      have : ∀ l : List Sc, (∀ x ∈ l, badS x = false) → 0 ≤ (l.map Sc.len).sum := by
        intro l
        induction l with
        | nil => simp
        | cons y l ih =>
          intro h
          have h1 := badS_no (h y (by simp))
          have h2 := ih fun z hz => h z (by simp [hz])
          simp only [List.map_cons, List.sum_cons]
          omega
      exact this l fun y hy => h y (by simp [hy])
    simp only [List.map_cons, List.sum_cons] at h1
    rw [bkL, if_neg (by omega), if_neg (by omega)]
    exact bkL_out (fun y hy => h y (by simp [hy])) (by omega)
theorem lenS_full (l : List Sc) : lenS l l.length = (l.map Sc.len).sum := by unfold lenS; rw [List.take_length]
theorem stp1_z {bk n : Int} {z z' : Zs} (h : stp1 bk n z = some z') (hb : bk = 0) : n = 0 := by
  unfold stp1 at h
  split at h
  · cases h
  · next hh => omega
theorem rowZ_at {se : List (List Sc)} {gi : Int} : ∀ (l : List Int) (b : Int) (z z' : Zs), rowZ se gi l b z = some z' → ∀ j : Nat, j < l.length → (bkG se gi (b + j)).1 = 0 → l[j]?.getD 0 = 0
  | [], b, z, z', h, j, hj, _ => by simp at hj
  | n :: r, b, z, z', h, j, hj, hb => by
    rw [rowZ] at h
    cases h1 : stp1 (bkG se gi b).1 n z with
    | none => rw [h1] at h; cases h
    | some y =>
      rw [h1] at h
      cases j with
      | zero => exact stp1_z h1 (by rw [← hb]; simp)
      | succ j =>
        have := rowZ_at r (b + 1) y z' h j (by simp at hj; omega) (by rw [← hb]; congr 2; push_cast; omega)
        simpa using this
theorem allZ_at {se : List (List Sc)} {m : Int} : ∀ (l : List (List Int)) (a : Int) (z z' : Zs), allZ se m l a z = some z' → ∀ i : Nat, i < l.length → ((l[i]?.getD []).length : Int) = m ∧ ∀ j : Nat, j < (l[i]?.getD []).length → (bkG se (a + i) j).1 = 0 → (l[i]?.getD [])[j]?.getD 0 = 0
  | [], a, z, z', h, i, hi => by simp at hi
  | row :: r, a, z, z', h, i, hi => by
    rw [allZ] at h
    split at h
    · next hm =>
      cases h1 : rowZ se a row 0 z with
      | none => rw [h1] at h; cases h
      | some y =>
        rw [h1] at h
        cases i with
        | zero =>
          refine ⟨hm, fun j hj hb => ?_⟩
          refine rowZ_at row 0 z y h1 j hj ?_
          rw [← hb]; congr 2 <;> omega
        | succ i =>
          have := allZ_at r (a + 1) y z' h i (by simp at hi; omega)
          refine ⟨this.1, fun j hj hb => this.2 j hj ?_⟩
          rw [← hb]; congr 2; push_cast; omega
    · cases h
structure Good (s sh m : Int) (g : List Int) (se : List (List Sc)) (st : List (List Int)) : Prop where
  gl : 1 ≤ g.length
  sl : se.length = g.length
  tl : st.length = g.length
  mb : 0 ≤ m ∧ m ≤ 49
  wl : ∀ w ∈ se, w.length ≤ 40
  row : ∀ i, i < st.length → ((st[i]?.getD []).length : Int) = m
  bk : ∀ a b : Int, 0 ≤ a ∧ a < se.length → 0 ≤ b → (if b < m then (bkG se a b).2 = 0 ∧ 0 ≤ (bkG se a b).1 ∧ ((bkG se a b).1 ≤ 11 ∨ (bkG se a b).1 = 13) else bkG se a b = (0, 2))
  nul : ∀ i j : Nat, i < st.length → (j : Int) < m → (bkG se i j).1 = 0 → (st[i]?.getD [])[j]?.getD 0 = 0
  sum : ∀ w ∈ se, lenS w w.length = m
  pos : ∀ w ∈ se, ∀ x ∈ w, badS x = false
theorem good_of {rate ga s sh m : Int} {g : List Int} {se : List (List Sc)} {st : List (List Int)} {tn : List (List Fl)} {ln : List Int} (h : chL rate ga s sh m g se st tn ln = 0) : Good s sh m g se st := by
  obtain ⟨hi, _, h3, h4, _, _⟩ := chL_zero h
  obtain ⟨hse, hw⟩ := secB_true h3
  obtain ⟨_, _, _, hm0, hmM, _, _, _⟩ := chI_zero hi
  have hM := MB_bd rate (decide (s = 2))
  unfold stpB at h4
  rw [Bool.and_eq_true, decide_eq_true_eq, Option.isSome_iff_exists] at h4
  obtain ⟨h41, z, h42⟩ := h4
  have hz := allZ_at st 0 _ z h42
  refine ⟨chI_len hi, hse, h41, by omega, fun w h => (hw w h).2.2, fun i hi => (hz i hi).1, fun a b ha hb => ?_, fun i j hi hj hb => (hz i hi).2 j (by have := (hz i hi).1; omega) (by rw [← hb]; congr 2; omega), fun w h => by rw [lenS_full]; exact (hw w h).2.1, fun w h => (hw w h).1⟩
  have hmem : se[a.toNat]?.getD [] ∈ se := mem_at (w := se) (by omega)
  obtain ⟨w1, w2, _⟩ := hw _ hmem
  have hbk : bkG se a b = bkL (se[a.toNat]?.getD []) b := if_neg (by omega)
  rw [hbk]
  by_cases hm : b < m
  · rw [if_pos hm]
    exact bkL_in w1 hb (by omega)
  · rw [if_neg hm]
    exact bkL_out w1 (by omega)

end Go.Proofs.Ytmkgfgdipkagbaa

