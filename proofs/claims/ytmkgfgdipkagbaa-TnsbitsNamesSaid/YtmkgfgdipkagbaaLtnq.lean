import Derived.Test.YtmkgfgdipkagbaaWb
import Derived.Test.YtmkgfgdipkagbaaTyl
import Derived.Test.YtmkgfgdipkagbaaLband
import Derived.Test.YtmkgfgdipkagbaaLinfo
import Derived.Test.YtmkgfgdipkagbaaLinfo2
import Derived.Test.YtmkgfgdipkagbaaLbits
import Derived.Test.YtmkgfgdipkagbaaLtns
import Derived.Test.YtmkgfgdipkagbaaLtnp
import Derived.Test.YtmkgfgdipkagbaaLrd
import Derived.Test.YtmkgfgdipkagbaaLrdq
import Derived.Test.YtmkgfgdipkagbaaLtng
namespace Go.Proofs.Ytmkgfgdipkagbaa
set_option linter.unusedVariables false
set_option linter.unusedSimpArgs false
set_option maxRecDepth 10000
open Go Go.Pv


open Go.RowKit
theorem pk_id {n z : Int} (hn : 0 ≤ n ∧ n < ((2 ^ z.toNat : Nat) : Int)) : mkB n z = n ∧ pk n z = bitsOf n.toNat z.toNat := by
  have hc : ((2 ^ z.toNat : Nat) : Int) = (2 : Int) ^ z.toNat := by push_cast; rfl
  have : mkB n z = n := Int.emod_eq_of_lt hn.1 (by rw [← hc]; exact hn.2)
  exact ⟨this, by unfold pk; rw [this]⟩
theorem pow_z {z : Int} (hz : 2 ≤ z ∧ z ≤ 4) : (z = 2 ∨ z = 3 ∨ z = 4) ∧ (2 : Int) ^ z.toNat = 2 * hF z ∧ ((2 ^ z.toNat : Nat) : Int) = 2 * hF z ∧ (2 ^ (z - 1).toNat : Int) = hF z := by
  have : z = 2 ∨ z = 3 ∨ z = 4 := by omega
  rcases this with rfl | rfl | rfl <;> decide
theorem sx_pk {z n : Int} (hz : 2 ≤ z ∧ z ≤ 4) (hn : 0 ≤ n ∧ n < ((2 ^ z.toNat : Nat) : Int)) : mkB (sx z n) z = n ∧ pk (sx z n) z = bitsOf n.toNat z.toNat ∧ -hF z ≤ sx z n ∧ sx z n < hF z := by
  obtain ⟨h1, h2, h3, h4⟩ := pow_z hz
  have hm : mkB (sx z n) z = n := by
    unfold mkB sx
    split
    · rw [Int.sub_emod, Int.emod_self, Int.sub_zero, Int.emod_emod]
      exact Int.emod_eq_of_lt hn.1 (by omega)
    · exact Int.emod_eq_of_lt hn.1 (by omega)
  refine ⟨hm, by unfold pk; rw [hm], ?_⟩
  unfold sx
  split <;> omega
theorem sx_back {z v : Int} (hz : 2 ≤ z ∧ z ≤ 4) (hv : -hF z ≤ v ∧ v < hF z) : sx z (mkB v z) = v ∧ 0 ≤ mkB v z ∧ mkB v z < ((2 ^ z.toNat : Nat) : Int) := by
  obtain ⟨h1, h2, h3, h4⟩ := pow_z hz
  have e : mkB v z = if 0 ≤ v then v else v + 2 * hF z := by
    unfold mkB
    rw [h2]
    split
    · exact Int.emod_eq_of_lt (by omega) (by omega)
    · rw [← Int.add_emod_right]
      exact Int.emod_eq_of_lt (by omega) (by omega)
  unfold sx
  rw [e, h3, h4, h2]
  split
  · rw [if_neg (by omega)]; omega
  · rw [if_pos (by omega)]; omega
theorem fit_iff {co : List Int} {z : Int} : fitB co z = true ↔ ∀ v ∈ co, -hF z ≤ v ∧ v < hF z := by
  unfold fitB
  rw [Bool.not_eq_true', List.any_eq_false]
  refine ⟨fun h v hv => ?_, fun h v hv => ?_⟩
  · have := h v hv
    unfold outF at this
    simp only [Bool.or_eq_true, decide_eq_true_eq, not_or] at this
    omega
  · have := h v hv
    unfold outF
    simp only [Bool.or_eq_true, decide_eq_true_eq, not_or]
    omega
theorem hF_mono {y z : Int} (h : y ≤ z) : hF y ≤ hF z := by
  unfold hF
  have : (2 : Nat) ^ (y - 1).toNat ≤ 2 ^ (z - 1).toNat := Nat.pow_le_pow_right (by omega) (by omega)
  exact_mod_cast this
theorem fit_mono {co : List Int} {y z : Int} (h : y ≤ z) (hf : fitB co y = true) : fitB co z = true := by
  rw [fit_iff] at hf ⊢
  intro v hv
  have := hf v hv
  have := hF_mono h
  omega
theorem cf_fit {b : List Int} (hp : ∀ y ∈ b, 0 ≤ y) {z : Int} (hz : 2 ≤ z ∧ z ≤ 4) (q : Int × Int) : ∀ k, ∀ v ∈ cfV b z q k, -hF z ≤ v ∧ v < hF z
  | 0, v, hv => by simp [cfV] at hv
  | k + 1, v, hv => by
    rw [cfV, List.mem_append, List.mem_singleton] at hv
    rcases hv with hv | rfl
    · exact cf_fit hp hz q k v hv
    · exact (sx_pk hz (rN_bd hp (by omega))).2.2
theorem cf_rds {b : List Int} (hp : ∀ y ∈ b, 0 ≤ y) {z : Int} (hz : 2 ≤ z ∧ z ≤ 4) (q : Int × Int) : ∀ k, Rds b q (cfQ b z q k) ((cfV b z q k).flatMap fun n => pk n z)
  | 0 => Rds.nil b q
  | k + 1 => by
    rw [cfV, List.flatMap_append]
    refine (cf_rds hp hz q k).app ?_
    have h1 := Rds.one hp (cfQ b z q k) (z := z) (by omega)
    have h2 := (sx_pk hz (rN_bd (q := cfQ b z q k) hp (show z = (z.toNat : Nat) by omega))).2.1
    simp only [List.flatMap_cons, List.flatMap_nil, List.append_nil]
    rw [h2]
    exact h1
theorem one_pk {b : List Int} (hp : ∀ y ∈ b, 0 ≤ y) (q : Int × Int) {z : Int} (hz : 0 ≤ z ∧ z ≤ 31) : Rds b q (rS b q z) (pk (rN b q z) z) := by
  rw [(pk_id (rN_bd hp (show z = (z.toNat : Nat) by omega))).2]
  exact Rds.one hp q hz
theorem bit_of {n : Int} (h : 0 ≤ n ∧ n < 2) : bitB (decide (n = 1)) = n := by
  have : n = 0 ∨ n = 1 := by omega
  rcases this with rfl | rfl <;> rfl
theorem top1_pow (s : Int) : top1 s = ((2 ^ (sz1 s).toNat : Nat) : Int) := by
  unfold top1 sz1
  split <;> decide
theorem fil_got {b : List Int} (hp : ∀ y ∈ b, 0 ≤ y) (s : Int) (fine : Bool) (q : Int × Int) (ho : odF b s fine q = false) (hs : stF b s q = false) :
    Rds b q (qF b s fine q) (filB s (fF b s fine q)) ∧ ((qF b s fine q).2 = 0 → rightB s (fF b s fine q) = true) ∧ (fF b s fine q).fine = fine := by
  have hz := sz_bd s
  have hzf := zF_bd (s := s) hp fine q
  have hw := wid_bd fine
  have h1 := one_pk hp q (z := sz1 s) (by omega)
  have h2 := one_pk hp (q1F b s q) (z := sz2 s) (by omega)
  have hr12 : Rds b q (q2F b s q) (pk (rN b q (sz1 s)) (sz1 s) ++ pk (oF b s q) (sz2 s)) := h1.app h2
  have n1 := rN_bd (q := q) (z := sz1 s) hp (show sz1 s = ((sz1 s).toNat : Nat) by omega)
  have n2 := rN_bd (q := q1F b s q) (z := sz2 s) hp (show sz2 s = ((sz2 s).toNat : Nat) by omega)
  rw [← top1_pow] at n1
  have hord : (q2F b s q).2 = 0 → oF b s q ≤ sz4 s := fun he => by
    unfold stF at hs
    rw [decide_eq_true he, Bool.and_true, decide_eq_false_iff_not] at hs
    by_cases h : s = 2
    · have e2 : sz2 s = 3 := if_pos h
      have e4 : sz4 s = 7 := if_pos h
      unfold oF at *
      rw [e2] at n2
      rw [e2, e4]
      have : ((2 ^ (3 : Int).toNat : Nat) : Int) = 8 := rfl
      omega
    · have e4 : sz4 s = 12 := if_neg h
      rw [e4]
      omega
  have ho0 : 0 ≤ oF b s q := n2.1
  by_cases hpos : 0 < oF b s q
  · have hff : fF b s fine q = ⟨rN b q (sz1 s), oF b s q, decide (dnF b s q = 1), fine, coF b s fine q⟩ := if_pos hpos
    have hqf : qF b s fine q = cfQ b (zF b s fine q) (q4F b s q) (oF b s q).toNat := if_pos hpos
    have h3 := one_pk hp (q2F b s q) (z := 1) (by omega)
    have h4 := one_pk hp (q3F b s q) (z := 1) (by omega)
    have d1 := rN_bd (q := q2F b s q) (z := 1) (s := 1) hp rfl
    have d2 := nr_bd (s := s) hp q
    have h5 := cf_rds hp hzf (q4F b s q) (oF b s q).toNat
    have hall := cf_fit hp hzf (q4F b s q) (oF b s q).toNat
    have hnar : narB (fF b s fine q) = decide (nrF b s q = 1) := by
      rw [hff]
      show fitB (coF b s fine q) (widB fine - 1) = _
      by_cases hn : nrF b s q = 1
      · have e : zF b s fine q = widB fine - 1 := by unfold zF; rw [hn]
        rw [decide_eq_true hn, ← e]
        exact fit_iff.2 hall
      · have hn0 : nrF b s q = 0 := by omega
        have e : zF b s fine q = widB fine := by unfold zF; omega
        unfold odF at ho
        rw [if_pos hpos, decide_eq_true hn0, Bool.true_and, e] at ho
        rw [ho, decide_eq_false hn]
    have hbn : bitB (narB (fF b s fine q)) = nrF b s q := by rw [hnar]; exact bit_of (by omega)
    have hcs : cszB (fF b s fine q) = zF b s fine q := by
      unfold cszB zF
      rw [hbn, hff]
    have hbd : bitB (fF b s fine q).down = dnF b s q := by rw [hff]; exact bit_of d1
    have hlen : (coF b s fine q).length = (oF b s q).toNat := cfV_len _ _ _ _
    refine ⟨?_, fun he => ?_, by rw [hff]⟩
    · have hfil : filB s (fF b s fine q) = (pk (rN b q (sz1 s)) (sz1 s) ++ pk (oF b s q) (sz2 s)) ++ (pk (dnF b s q) 1 ++ (pk (nrF b s q) 1 ++ (coF b s fine q).flatMap fun n => pk n (zF b s fine q))) := by
        unfold filB
        rw [hbn, hbd]
        have hcb : cB (fF b s fine q) (fF b s fine q).co.length = (coF b s fine q).flatMap fun n => pk n (zF b s fine q) := by
          unfold cB
          rw [hcs, hff, List.take_length]
        rw [hcb]
        simp only [hff]
        rw [if_neg (by omega), List.append_assoc]
      rw [hfil, hqf]
      exact hr12.app (h3.app (h4.app h5))
    · rw [hqf] at he
      obtain ⟨k1, _⟩ := h5 he
      obtain ⟨k2, _⟩ := h4 k1
      obtain ⟨k3, _⟩ := h3 k2
      have := hord k3
      rw [hff]
      unfold rightB
      simp only [decide_eq_true n1.1, decide_eq_true n1.2, decide_eq_true ho0, decide_eq_true this, decide_eq_true hpos, decide_eq_true (show ((coF b s fine q).length : Int) = oF b s q by rw [hlen]; omega), Bool.true_and, Bool.true_or]
      exact fit_mono (y := zF b s fine q) (by unfold zF; omega) (fit_iff.2 hall)
  · have hff : fF b s fine q = ⟨rN b q (sz1 s), oF b s q, false, fine, []⟩ := if_neg hpos
    have hqf : qF b s fine q = q2F b s q := if_neg hpos
    have ho1 : oF b s q = 0 := by omega
    refine ⟨?_, fun he => ?_, by rw [hff]⟩
    · rw [hqf, hff]
      unfold filB
      simp only
      rw [if_pos ho1, List.append_nil]
      exact hr12
    · rw [hff]
      unfold rightB
      simp only [decide_eq_true n1.1, decide_eq_true n1.2, ho1, Bool.true_and]
      have : (0 : Int) ≤ sz4 s := by omega
      simp [this, fitB]
theorem w_got {b : List Int} (hp : ∀ y ∈ b, 0 ≤ y) (s : Int) (fine : Bool) (q : Int × Int) : ∀ j, wO b s fine q j = false → wS b s fine q j = false →
    Rds b q (wQ b s fine q j) ((wL b s fine q j).flatMap (filB s)) ∧ ((wQ b s fine q j).2 = 0 → ∀ f ∈ wL b s fine q j, rightB s f = true) ∧ ∀ f ∈ wL b s fine q j, f.fine = fine
  | 0, _, _ => ⟨Rds.nil b q, by simp [wL], by simp [wL]⟩
  | j + 1, ho, hs => by
    rw [wO, Bool.or_eq_false_iff] at ho
    rw [wS, Bool.or_eq_false_iff] at hs
    obtain ⟨h1, h2, h3⟩ := w_got hp s fine q j ho.1 hs.1
    obtain ⟨k1, k2, k3⟩ := fil_got hp s fine (wQ b s fine q j) ho.2 hs.2
    refine ⟨?_, fun he f hf => ?_, fun f hf => ?_⟩
    · rw [wL, List.flatMap_append]
      simp only [List.flatMap_cons, List.flatMap_nil, List.append_nil]
      exact h1.app k1
    · rw [wL, List.mem_append, List.mem_singleton] at hf
      rcases hf with hf | rfl
      · exact h2 (k1 he).1 f hf
      · exact k2 he
    · rw [wL, List.mem_append, List.mem_singleton] at hf
      rcases hf with hf | rfl
      · exact h3 f hf
      · exact k3
theorem win_got {b : List Int} (hp : ∀ y ∈ b, 0 ≤ y) (s : Int) (q : Int × Int) (ho : wO b s (fnW b s q) (q2W b s q) (mW b s q).toNat = false) (hs : wS b s (fnW b s q) (q2W b s q) (mW b s q).toNat = false) :
    Rds b q (wQ b s (fnW b s q) (q2W b s q) (mW b s q).toNat) (winB s (wL b s (fnW b s q) (q2W b s q) (mW b s q).toNat)) ∧ ((wQ b s (fnW b s q) (q2W b s q) (mW b s q).toNat).2 = 0 → badW s (wL b s (fnW b s q) (q2W b s q) (mW b s q).toNat) = false) := by
  have hz := sz_bd s
  have hm := (z2 (s := s) hp q).1
  obtain ⟨h1, h2, h3⟩ := w_got hp s (fnW b s q) (q2W b s q) (mW b s q).toNat ho hs
  have hl := wL_len b s (fnW b s q) (q2W b s q) (mW b s q).toNat
  have r1 := one_pk hp q (z := sz0 s) (by omega)
  generalize hW : wL b s (fnW b s q) (q2W b s q) (mW b s q).toNat = w at *
  have hlm : (w.length : Int) = mW b s q := by omega
  have hhd : Rds b q (q2W b s q) (hdB s w) := by
    unfold hdB
    rw [hlm]
    by_cases hpos : 0 < mW b s q
    · have e : q2W b s q = rS b (q1W b s q) 1 := if_pos hpos
      rw [if_pos (by omega), e]
      have r2 := one_pk hp (q1W b s q) (z := 1) (by omega)
      have d := rN_bd (q := q1W b s q) (z := 1) (s := 1) hp rfl
      have hf : (w[0]?.getD default).fine = fnW b s q := h3 _ (mem_at (by omega))
      have hb : bitB (w[0]?.getD default).fine = rN b (q1W b s q) 1 := by
        rw [hf]
        unfold fnW
        rw [decide_eq_true hpos, Bool.true_and]
        exact bit_of d
      rw [hb]
      exact r1.app r2
    · have e : q2W b s q = q1W b s q := if_neg hpos
      rw [if_neg (by omega), e, List.append_nil]
      exact r1
  refine ⟨?_, fun he => ?_⟩
  · unfold winB fB
    rw [List.take_length]
    exact hhd.app h1
  · unfold badW
    rw [Bool.or_eq_false_iff]
    refine ⟨decide_eq_false ?_, List.any_eq_false.2 fun f hf => ?_⟩
    · have n := rN_bd (q := q) (z := sz0 s) hp (show sz0 s = ((sz0 s).toNat : Nat) by omega)
      unfold mW at hlm
      by_cases h : s = 2
      · have e0 : sz0 s = 1 := if_pos h
        have e3 : sz3 s = 1 := if_pos h
        rw [e0] at n hlm
        rw [e3]
        have : ((2 ^ (1 : Int).toNat : Nat) : Int) = 2 := rfl
        omega
      · have e3 : sz3 s = 3 := if_neg h
        rw [e3]
        unfold mW at hm
        omega
    · unfold badF
      rw [h2 he f hf, h3 f hf, h3 _ (mem_at (by cases w with | nil => simp at hf | cons => simp))]
      simp
theorem t_got {b : List Int} (hp : ∀ y ∈ b, 0 ≤ y) (s : Int) (q : Int × Int) : ∀ k, tO b s q k = false → tS b s q k = false →
    Rds b q (tQ b s q k) ((tL b s q k).flatMap (winB s)) ∧ ((tQ b s q k).2 = 0 → ∀ w ∈ tL b s q k, badW s w = false)
  | 0, _, _ => ⟨Rds.nil b q, by simp [tL]⟩
  | k + 1, ho, hs => by
    rw [tO, Bool.or_eq_false_iff] at ho
    rw [tS, Bool.or_eq_false_iff] at hs
    obtain ⟨h1, h2⟩ := t_got hp s q k ho.1 hs.1
    obtain ⟨k1, k2⟩ := win_got hp s (tQ b s q k) ho.2 hs.2
    refine ⟨?_, fun he w hw => ?_⟩
    · rw [tL, List.flatMap_append]
      simp only [List.flatMap_cons, List.flatMap_nil, List.append_nil]
      exact h1.app k1
    · rw [tL, List.mem_append, List.mem_singleton] at hw
      rcases hw with hw | rfl
      · exact h2 (k1 he).1 w hw
      · exact k2 he
theorem tB_lower {s : Int} (l : List (List Fl)) : l.length ≤ (tB s l l.length).length := by
  rw [show tB s l l.length = l.flatMap (winB s) by unfold tB; rw [List.take_length]]
  have hz := sz_bd s
  induction l with
  | nil => simp
  | cons w l ih =>
    have : 1 ≤ (winB s w).length := by
      unfold winB hdB
      simp only [List.length_append, pk_len]
      omega
    rw [List.flatMap_cons, List.length_append, List.length_cons]
    omega
/-- What was got without an error may be, and is put as these bits. -/
theorem getT_ok {b : List Int} {at_ s sh m : Int} {g : List Int} (hp : ∀ y ∈ b, 0 ≤ y) (h : getTe b at_ s sh m g = 0) :
    chT s sh m g (getTl b at_ s sh m g) = 0 ∧ 0 ≤ at_ ∧ getTp b at_ s sh m g = at_ + ((tB s (getTl b at_ s sh m g) (getTl b at_ s sh m g).length).length : Nat) ∧ getTp b at_ s sh m g ≤ b.length ∧ (b.drop at_.toNat).take (tB s (getTl b at_ s sh m g) (getTl b at_ s sh m g).length).length = tB s (getTl b at_ s sh m g) (getTl b at_ s sh m g).length := by
  have el : getTl b at_ s sh m g = tL b s (at_, 0) (nT s sh m g) := if_pos h
  have ep : getTp b at_ s sh m g = (tQ b s (at_, 0) (nT s sh m g)).1 := if_pos h
  rw [el, ep]
  unfold getTe at h
  split at h
  · rename_i h0
    split at h
    · cases h
    · rename_i h1
      split at h
      · rename_i h2
        split at h
        · cases h
        · rename_i h3
          have hw := may_pos (winE_yes h0)
          obtain ⟨k1, k2⟩ := t_got hp s (at_, 0) (nT s sh m g) (by simpa using h3) (by simpa using h1)
          obtain ⟨r1, r2, r3, r4⟩ := k1 h2
          have hlen := tL_len b s (at_, 0) (nT s sh m g)
          have hn : ((nT s sh m g : Nat) : Int) = winI s sh m g := by unfold nT; omega
          have htb : tB s (tL b s (at_, 0) (nT s sh m g)) (tL b s (at_, 0) (nT s sh m g)).length = (tL b s (at_, 0) (nT s sh m g)).flatMap (winB s) := by unfold tB; rw [List.take_length]
          have hlow := tB_lower (s := s) (tL b s (at_, 0) (nT s sh m g))
          rw [htb] at hlow ⊢
          have r5 := r4 (by omega)
          refine ⟨?_, r5.1, r2, by rw [r2]; exact r5.2, r3⟩
          rw [chT, if_pos h0, if_pos (by rw [hlen]; exact hn), if_neg]
          intro ha
          obtain ⟨w, hw1, hw2⟩ := List.any_eq_true.1 ha
          rw [k2 h2 w hw1] at hw2
          cases hw2
      · rename_i h2
        exact absurd h h2
  · rename_i h0
    exact absurd h h0
theorem get_pk {b : List Int} {p n z : Int} (hz : 0 ≤ z ∧ z ≤ 31) (h : AtB b p (pk n z)) : rN b (p, 0) z = mkB n z ∧ rS b (p, 0) z = (p + z, 0) := by
  obtain ⟨s, rfl⟩ := Int.eq_ofNat_of_zero_le hz.1
  have hp : 0 < 2 ^ s := Nat.pow_pos (by omega)
  have hc : ((2 ^ s : Nat) : Int) = (2 : Int) ^ s := by push_cast; rfl
  have m0 : 0 ≤ mkB n s := by unfold mkB; rw [Int.toNat_natCast]; exact Int.emod_nonneg _ (by omega)
  have m1 : mkB n s < ((2 ^ s : Nat) : Int) := by unfold mkB; rw [Int.toNat_natCast, hc]; exact Int.emod_lt_of_pos _ (by omega)
  unfold pk at h
  rw [Int.toNat_natCast] at h
  obtain ⟨g1, g2⟩ := h.get (by omega) (by omega)
  refine ⟨?_, g2⟩
  rw [g1]
  omega
theorem cf_back {b : List Int} {z p : Int} (hz : 2 ≤ z ∧ z ≤ 4) (co : List Int) (hv : ∀ v ∈ co, -hF z ≤ v ∧ v < hF z) (h : AtB b p (co.flatMap fun n => pk n z)) : ∀ k ≤ co.length, cfV b z (p, 0) k = co.take k ∧ cfQ b z (p, 0) k = (p + ((co.take k).flatMap fun n => pk n z).length, 0)
  | 0, _ => ⟨by simp [cfV], by simp [cfQ]⟩
  | k + 1, hk => by
    obtain ⟨h1, h2⟩ := cf_back hz co hv h k (by omega)
    have hs : co.flatMap (fun n => pk n z) = (co.take k).flatMap (fun n => pk n z) ++ (pk (co[k]?.getD 0) z ++ (co.drop (k + 1)).flatMap fun n => pk n z) := by
      conv => lhs; rw [← List.take_append_drop k co, List.drop_eq_getElem_cons (by omega : k < co.length)]
      rw [List.flatMap_append, List.flatMap_cons, List.getElem?_eq_getElem (by omega)]
      rfl
    rw [hs] at h
    have h3 := (h.app.2.app).1
    obtain ⟨g1, g2⟩ := get_pk (by omega) h3
    have hvk := hv (co[k]?.getD 0) (mem_at (by omega))
    have hsb := (sx_back hz hvk).1
    have hf := take_flat (fun n => pk n z) co k (by omega)
    refine ⟨?_, ?_⟩
    · rw [cfV, h1, h2, g1, hsb, List.take_succ_eq_append_getElem (by omega), List.getElem?_eq_getElem (by omega)]
      rfl
    · rw [cfQ, h2, g2]
      have : ((co.take (k + 1)).flatMap fun n => pk n z).length = ((co.take k).flatMap fun n => pk n z).length + z.toNat := by
        rw [hf, List.length_append, pk_len]
      rw [this]
      have : ((z.toNat : Nat) : Int) = z := by omega
      push_cast
      rw [this, Int.add_assoc]
theorem fil_back {b : List Int} {s p : Int} {f : Fl} (hr : rightB s f = true) (h : AtB b p (filB s f)) : fF b s f.fine (p, 0) = f ∧ qF b s f.fine (p, 0) = (p + (filB s f).length, 0) ∧ odF b s f.fine (p, 0) = false ∧ stF b s (p, 0) = false := by
  have hz := sz_bd s
  obtain ⟨a1, a2, a3, a4, a5⟩ := right_ok hr
  have hw := wid_bd f.fine
  have hcz := csz_bd f
  unfold filB at h
  have m1 := (pk_id (n := f.len) (z := sz1 s) (by rw [← top1_pow]; exact a1)).1
  have ho : 0 ≤ f.order ∧ f.order < ((2 ^ (sz2 s).toNat : Nat) : Int) := by
    refine ⟨a2.1, ?_⟩
    by_cases hs : s = 2
    · have e2 : sz2 s = 3 := if_pos hs
      have e4 : sz4 s = 7 := if_pos hs
      rw [e2]; show _ < (8 : Int); omega
    · have e2 : sz2 s = 5 := if_neg hs
      have e4 : sz4 s = 12 := if_neg hs
      rw [e2]; show _ < (32 : Int); omega
  have m2 := (pk_id ho).1
  obtain ⟨h1, h2⟩ := h.app
  rw [pk_len] at h2
  obtain ⟨h3, h4⟩ := h2.app
  rw [pk_len] at h4
  have c1 : (((sz1 s).toNat : Nat) : Int) = sz1 s := by omega
  have c2 : (((sz2 s).toNat : Nat) : Int) = sz2 s := by omega
  rw [c1] at h3 h4
  rw [c2] at h4
  obtain ⟨g1, g2⟩ := get_pk (by omega) h1
  obtain ⟨g3, g4⟩ := get_pk (by omega) h3
  have e1 : q1F b s (p, 0) = (p + sz1 s, 0) := g2
  have e2 : oF b s (p, 0) = f.order := by unfold oF; rw [e1, g3, m2]
  have e3 : q2F b s (p, 0) = (p + sz1 s + sz2 s, 0) := by unfold q2F; rw [e1, g4]
  have hst : stF b s (p, 0) = false := by
    unfold stF
    rw [e2, decide_eq_false (by omega), Bool.false_and]
  by_cases hpos : 0 < f.order
  · rw [if_neg (by omega)] at h4
    obtain ⟨h5, h6⟩ := h4.app
    obtain ⟨h7, h8⟩ := h6.app
    rw [pk_len] at h7 h8
    rw [pk_len] at h8
    have c3 : (((1 : Int).toNat : Nat) : Int) = 1 := rfl
    rw [c3] at h7 h8
    obtain ⟨g5, g6⟩ := get_pk (by omega) h5
    obtain ⟨g7, g8⟩ := get_pk (by omega) h7
    have bb : ∀ x : Bool, mkB (bitB x) 1 = bitB x := by intro x; cases x <;> decide
    have e4 : dnF b s (p, 0) = bitB f.down := by unfold dnF; rw [e3, g5, bb]
    have e5 : q3F b s (p, 0) = (p + sz1 s + sz2 s + 1, 0) := by unfold q3F; rw [e3, g6]
    have e6 : nrF b s (p, 0) = bitB (narB f) := by unfold nrF; rw [e5, g7, bb]
    have e7 : q4F b s (p, 0) = (p + sz1 s + sz2 s + 1 + 1, 0) := by unfold q4F; rw [e5, g8]
    have e8 : zF b s f.fine (p, 0) = cszB f := by unfold zF; rw [e6]; rfl
    have hfit : ∀ v ∈ f.co, -hF (cszB f) ≤ v ∧ v < hF (cszB f) := by
      refine fit_iff.1 ?_
      cases hn : narB f with
      | true =>
        have : cszB f = widB f.fine - 1 := by unfold cszB; rw [hn]; rfl
        rw [this]
        exact hn
      | false =>
        have : cszB f = widB f.fine := by unfold cszB; rw [hn]; show widB f.fine - 0 = _; omega
        rw [this]
        exact a5
    have hcb : cB f f.co.length = f.co.flatMap fun n => pk n (cszB f) := by unfold cB; rw [List.take_length]
    rw [hcb] at h8
    obtain ⟨k1, k2⟩ := cf_back hcz f.co hfit h8 f.co.length (Nat.le_refl _)
    rw [List.take_length] at k1 k2
    have hlo : (oF b s (p, 0)).toNat = f.co.length := by rw [e2]; omega
    have eco : coF b s f.fine (p, 0) = f.co := by unfold coF; rw [e8, e7, hlo, k1]
    have hpo : 0 < oF b s (p, 0) := by rw [e2]; exact hpos
    refine ⟨?_, ?_, ?_, hst⟩
    · unfold fF
      rw [if_pos hpo, g1, m1, e2, e4, eco]
      have : decide (bitB f.down = 1) = f.down := by cases f.down <;> decide
      rw [this]
    · unfold qF
      rw [if_pos hpo, e8, e7, hlo, k2]
      unfold filB
      rw [if_neg (by omega), hcb]
      simp only [List.length_append, pk_len]
      congr 1
      push_cast
      omega
    · unfold odF
      rw [if_pos hpo, e6, eco, e8]
      cases hn : narB f with
      | true => rw [decide_eq_false (by decide), Bool.false_and]
      | false =>
        have : cszB f = widB f.fine := by unfold cszB; rw [hn]; show widB f.fine - 0 = _; omega
        rw [this, decide_eq_true (by decide), Bool.true_and]
        exact hn
  · have ho0 : f.order = 0 := by omega
    have hpo : ¬ 0 < oF b s (p, 0) := by rw [e2]; omega
    have hco : f.co = [] := List.eq_nil_of_length_eq_zero (by omega)
    have hdn : f.down = false := by rcases a4 with h | h; omega; exact h
    refine ⟨?_, ?_, ?_, hst⟩
    · unfold fF
      rw [if_neg hpo, g1, m1, e2]
      cases f
      simp_all
    · unfold qF
      rw [if_neg hpo, e3]
      unfold filB
      rw [if_pos ho0]
      simp only [List.length_append, pk_len, List.length_nil]
      congr 1
      push_cast
      omega
    · unfold odF
      rw [if_neg hpo]
theorem w_back {b : List Int} {s p : Int} {fine : Bool} (w : List Fl) (hr : ∀ f ∈ w, rightB s f = true ∧ f.fine = fine) (h : AtB b p (w.flatMap (filB s))) : ∀ j ≤ w.length, wL b s fine (p, 0) j = w.take j ∧ wQ b s fine (p, 0) j = (p + ((w.take j).flatMap (filB s)).length, 0) ∧ wO b s fine (p, 0) j = false ∧ wS b s fine (p, 0) j = false
  | 0, _ => ⟨by simp [wL], by simp [wQ], rfl, rfl⟩
  | j + 1, hj => by
    obtain ⟨h1, h2, h3, h4⟩ := w_back w hr h j (by omega)
    have hs : w.flatMap (filB s) = (w.take j).flatMap (filB s) ++ (filB s (w[j]?.getD default) ++ (w.drop (j + 1)).flatMap (filB s)) := by
      conv => lhs; rw [← List.take_append_drop j w, List.drop_eq_getElem_cons (by omega : j < w.length)]
      rw [List.flatMap_append, List.flatMap_cons, List.getElem?_eq_getElem (by omega)]
      rfl
    rw [hs] at h
    have h5 := (h.app.2.app).1
    obtain ⟨r1, r2⟩ := hr (w[j]?.getD default) (mem_at (by omega))
    obtain ⟨g1, g2, g3, g4⟩ := fil_back r1 h5
    rw [r2] at g1 g2 g3
    have hf := take_flat (filB s) w j (by omega)
    refine ⟨?_, ?_, ?_, ?_⟩
    · rw [wL, h1, h2, g1, List.take_succ_eq_append_getElem (by omega), List.getElem?_eq_getElem (by omega)]
      rfl
    · rw [wQ, h2, g2, hf, List.length_append]
      push_cast
      rw [Int.add_assoc]
    · rw [wO, h3, h2, g3]; rfl
    · rw [wS, h4, h2, g4]; rfl
theorem win_back {b : List Int} {s p : Int} {w : List Fl} (hb : badW s w = false) (h : AtB b p (winB s w)) : (mW b s (p, 0)).toNat = w.length ∧ wL b s (fnW b s (p, 0)) (q2W b s (p, 0)) (mW b s (p, 0)).toNat = w ∧ wQ b s (fnW b s (p, 0)) (q2W b s (p, 0)) (mW b s (p, 0)).toNat = (p + (winB s w).length, 0) ∧ wO b s (fnW b s (p, 0)) (q2W b s (p, 0)) (mW b s (p, 0)).toNat = false ∧ wS b s (fnW b s (p, 0)) (q2W b s (p, 0)) (mW b s (p, 0)).toNat = false := by
  have hz := sz_bd s
  obtain ⟨b1, b2⟩ := bad_ok hb
  unfold winB at h
  obtain ⟨h1, h2⟩ := h.app
  have hhd : hdB s w = pk w.length (sz0 s) ++ (if 0 < w.length then pk (bitB (w[0]?.getD default).fine) 1 else []) := rfl
  have h1' := h1
  rw [hhd] at h1'
  obtain ⟨h3, h4⟩ := h1'.app
  rw [pk_len] at h4
  have c1 : (((sz0 s).toNat : Nat) : Int) = sz0 s := by omega
  rw [c1] at h4
  have hl : 0 ≤ (w.length : Int) ∧ (w.length : Int) < ((2 ^ (sz0 s).toNat : Nat) : Int) := by
    refine ⟨by omega, ?_⟩
    by_cases hs : s = 2
    · have e0 : sz0 s = 1 := if_pos hs
      have e3 : sz3 s = 1 := if_pos hs
      rw [e0]; show _ < (2 : Int); omega
    · have e0 : sz0 s = 2 := if_neg hs
      have e3 : sz3 s = 3 := if_neg hs
      rw [e0]; show _ < (4 : Int); omega
  obtain ⟨g1, g2⟩ := get_pk (by omega) h3
  have em : mW b s (p, 0) = w.length := by unfold mW; rw [g1, (pk_id hl).1]
  have e1 : q1W b s (p, 0) = (p + sz0 s, 0) := g2
  have key : q2W b s (p, 0) = (p + (hdB s w).length, 0) ∧ ∀ f ∈ w, f.fine = fnW b s (p, 0) := by
    rw [hhd]
    by_cases hpos : 0 < w.length
    · rw [if_pos hpos] at h4 ⊢
      have bb : ∀ x : Bool, mkB (bitB x) 1 = bitB x := by intro x; cases x <;> decide
      obtain ⟨g3, g4⟩ := get_pk (by omega) h4
      have hm : 0 < mW b s (p, 0) := by rw [em]; omega
      have efn : fnW b s (p, 0) = (w[0]?.getD default).fine := by
        unfold fnW
        rw [decide_eq_true hm, Bool.true_and, e1, g3, bb]
        cases (w[0]?.getD default).fine <;> decide
      refine ⟨?_, fun f hf => by rw [efn]; exact (b2 f hf).2⟩
      unfold q2W
      rw [if_pos hm, e1, g4]
      simp only [List.length_append, pk_len]
      congr 1
      push_cast
      have : (((1 : Int).toNat : Nat) : Int) = 1 := rfl
      omega
    · have hm : ¬ 0 < mW b s (p, 0) := by rw [em]; omega
      have hw : w = [] := List.eq_nil_of_length_eq_zero (by omega)
      refine ⟨?_, by rw [hw]; simp⟩
      unfold q2W
      rw [if_neg hm, e1, if_neg hpos, List.append_nil, pk_len, c1]
  have hfb : fB s w w.length = w.flatMap (filB s) := by unfold fB; rw [List.take_length]
  rw [hfb] at h2
  have ht : (mW b s (p, 0)).toNat = w.length := by omega
  obtain ⟨k1, k2, k3, k4⟩ := w_back w (fun f hf => ⟨(b2 f hf).1, key.2 f hf⟩) h2 w.length (Nat.le_refl _)
  rw [List.take_length] at k1 k2
  rw [ht, key.1]
  refine ⟨rfl, k1, ?_, k3, k4⟩
  rw [k2]
  unfold winB
  rw [hfb, List.length_append]
  push_cast
  rw [Int.add_assoc]
theorem t_back {b : List Int} {s p : Int} (l : List (List Fl)) (hr : ∀ w ∈ l, badW s w = false) (h : AtB b p (l.flatMap (winB s))) : ∀ k ≤ l.length, tL b s (p, 0) k = l.take k ∧ tQ b s (p, 0) k = (p + ((l.take k).flatMap (winB s)).length, 0) ∧ tO b s (p, 0) k = false ∧ tS b s (p, 0) k = false
  | 0, _ => ⟨by simp [tL], by simp [tQ], rfl, rfl⟩
  | k + 1, hk => by
    obtain ⟨h1, h2, h3, h4⟩ := t_back l hr h k (by omega)
    have hs : l.flatMap (winB s) = (l.take k).flatMap (winB s) ++ (winB s (l[k]?.getD default) ++ (l.drop (k + 1)).flatMap (winB s)) := by
      conv => lhs; rw [← List.take_append_drop k l, List.drop_eq_getElem_cons (by omega : k < l.length)]
      rw [List.flatMap_append, List.flatMap_cons, List.getElem?_eq_getElem (by omega)]
      rfl
    rw [hs] at h
    have h5 := (h.app.2.app).1
    obtain ⟨g0, g1, g2, g3, g4⟩ := win_back (hr (l[k]?.getD default) (mem_at (by omega))) h5
    have hf := take_flat (winB s) l k (by omega)
    refine ⟨?_, ?_, ?_, ?_⟩
    · rw [tL, h1, h2, g1, List.take_succ_eq_append_getElem (by omega), List.getElem?_eq_getElem (by omega)]
      rfl
    · rw [tQ, h2, g2, hf, List.length_append]
      push_cast
      rw [Int.add_assoc]
    · rw [tO, h3, h2, g3]; rfl
    · rw [tS, h4, h2, g4]; rfl
/-- What was put is got, whatever stands behind. -/
theorem getT_back {s sh m : Int} {g be : List Int} {l : List (List Fl)} (hz : chT s sh m g l = 0) : getTe (tB s l l.length ++ be) 0 s sh m g = 0 ∧ getTl (tB s l l.length ++ be) 0 s sh m g = l ∧ getTp (tB s l l.length ++ be) 0 s sh m g = (tB s l l.length).length := by
  obtain ⟨h0, h1, h2, h3⟩ := chT_zero hz
  have htb : tB s l l.length = l.flatMap (winB s) := by unfold tB; rw [List.take_length]
  obtain ⟨k1, k2, k3, k4⟩ := t_back (b := tB s l l.length ++ be) (p := 0) l h3 ⟨[], be, by rw [htb]; simp, rfl⟩ l.length (Nat.le_refl _)
  rw [List.take_length] at k1 k2
  rw [← htb] at k2
  obtain ⟨e1, e2, e3⟩ := getT_fin (b := tB s l l.length ++ be) (at_ := 0) h0 (k := l.length) (by omega) k4 (by rw [k2]) k3
  refine ⟨e1, by rw [e2, k1], ?_⟩
  rw [e3, k2]
  simp

end Go.Proofs.Ytmkgfgdipkagbaa
