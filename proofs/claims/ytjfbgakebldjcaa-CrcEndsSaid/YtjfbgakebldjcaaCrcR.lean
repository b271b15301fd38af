/-
  The sum on lists of numbers and the sum on sixteen bits are one; what follows for lists of bits. No program in sight.
-/
import Derived.Test.YtjfbgakebldjcaaCrcQ
namespace Go.Proofs.Ytjfbgakebldjcaa
set_option linter.unusedVariables false

/-- A list of bits. -/
def Bt (xs : List Int) : Prop := ∀ x ∈ xs, x = 0 ∨ x = 1
def toB (xs : List Int) : List Bool := xs.map fun x => decide (x = 1)

theorem Bt.bitsB {xs : List Int} (h : Bt xs) : bitsB xs = true := by
  unfold Proofs.Ytjfbgakebldjcaa.bitsB
  rw [List.all_eq_true]
  intro x hx
  rcases h x hx with rfl | rfl <;> decide
theorem Bt.pos {xs : List Int} (h : Bt xs) (k : Nat) : 0 ≤ xs[k]?.getD 0 ∧ xs[k]?.getD 0 ≤ 1 := by
  rcases hk : xs[k]? with _ | x
  · simp
  · rcases h x (List.mem_of_getElem? hk) with rfl | rfl <;> simp
theorem Bt.mod {xs : List Int} : Bt (xs.map (· % 2)) := by
  intro x hx
  obtain ⟨y, _, rfl⟩ := List.mem_map.1 hx
  omega
theorem Bt.append {xs ys : List Int} (h : Bt xs) (k : Bt ys) : Bt (xs ++ ys) := by
  intro x hx
  rcases List.mem_append.1 hx with hx | hx
  · exact h x hx
  · exact k x hx

theorem toB_inj {xs ys : List Int} (h : Bt xs) (k : Bt ys) (e : toB xs = toB ys) : xs = ys := by
  have hl : xs.length = ys.length := by simpa [toB] using congrArg List.length e
  apply List.ext_getElem hl
  intro i h1 h2
  have e1 : (toB xs)[i]? = (toB ys)[i]? := by rw [e]
  simp only [toB, List.getElem?_map, List.getElem?_eq_getElem h1, List.getElem?_eq_getElem h2, Option.map_some, Option.some.injEq] at e1
  rcases h _ (List.getElem_mem h1) with a | a <;> rcases k _ (List.getElem_mem h2) with b | b <;> rw [a, b] at e1 ⊢ <;> simp at e1

theorem cstep_B (v : BitVec 16) (b : Bool) : cstep v.toNat (if b = true then 1 else 0) = (stepB v b).toNat := by
  have hm : v.msb = decide (32768 ≤ v.toNat) := BitVec.msb_eq_decide v
  have hv := v.isLt
  have hs : (v <<< 1).toNat = 2 * v.toNat % 65536 := by
    rw [BitVec.toNat_shiftLeft, Nat.shiftLeft_eq]
    omega
  unfold cstep stepB
  rw [hm]
  by_cases h : 32768 ≤ v.toNat
  · have h1 : v.toNat / 32768 = 1 := by omega
    cases b <;> simp [h, h1, hs]
  · have h1 : v.toNat / 32768 = 0 := by omega
    cases b <;> simp [h, h1, hs]

theorem csum_B (xs : List Int) (h : Bt xs) (v : BitVec 16) : csum v.toNat xs = (feed v (toB xs)).toNat := by
  induction xs generalizing v with
  | nil => rfl
  | cons x r ih =>
    have h1 : cstep v.toNat x.toNat = (stepB v (decide (x = 1))).toNat := by
      rw [← cstep_B]
      rcases h x (by simp) with rfl | rfl <;> simp
    show csum (cstep v.toNat x.toNat) r = _
    rw [h1, ih (fun y hy => h y (by simp [hy]))]
    rfl

theorem csum_B' (xs : List Int) (h : Bt xs) (s : Nat) (hs : s < 65536) : csum s xs = (feed (BitVec.ofNat 16 s) (toB xs)).toNat := by
  rw [← csum_B xs h]
  congr 1
  simp
  omega

theorem ofNat_inj16 {s t : Nat} (hs : s < 65536) (ht : t < 65536) (h : BitVec.ofNat 16 s = BitVec.ofNat 16 t) : s = t := by
  have := congrArg BitVec.toNat h
  simp at this
  omega

/-- The same bits behind turn unlike sums into unlike ones. -/
theorem csum_inj {s t : Nat} {xs : List Int} (h : Bt xs) (hs : s < 65536) (ht : t < 65536) (e : csum s xs = csum t xs) : s = t := by
  rw [csum_B' xs h s hs, csum_B' xs h t ht] at e
  exact ofNat_inj16 hs ht (feed_inj (BitVec.eq_of_toNat_eq e))

/-- Lists that differ only in a window of sixteen have unlike sums. -/
theorem csum_burst {s first : Nat} {xs ys : List Int} (hs : s < 65536) (hx : Bt xs) (hy : Bt ys) (hl : xs.length = ys.length)
    (ha : ∀ i, i < xs.length → (i < first ∨ first + 16 ≤ i) → xs[i]? = ys[i]?) (e : csum s xs = csum s ys) : xs = ys := by
  apply toB_inj hx hy
  rw [csum_B' xs hx s hs, csum_B' ys hy s hs] at e
  have e := BitVec.eq_of_toNat_eq e
  have hl' : (toB xs).length = (toB ys).length := by simpa [toB] using hl
  have hlx : (toB xs).length = xs.length := by simp [toB]
  have ha' : ∀ i, i < (toB xs).length → (i < first ∨ first + 16 ≤ i) → (toB xs)[i]? = (toB ys)[i]? := by
    intro i hi hw
    simp only [toB, List.getElem?_map]
    rw [ha i (by omega) hw]
  generalize toB xs = l at *
  generalize toB ys = m at *
  have hp : l.take first = m.take first := by
    apply List.ext_getElem?
    intro i
    rw [List.getElem?_take, List.getElem?_take]
    split
    · rcases Nat.lt_or_ge i l.length with h | h
      · exact ha' i h (.inl ‹_›)
      · rw [List.getElem?_eq_none h, List.getElem?_eq_none (by omega)]
    · rfl
  have hq : l.drop (first + 16) = m.drop (first + 16) := by
    apply List.ext_getElem?
    intro i
    rw [List.getElem?_drop, List.getElem?_drop]
    rcases Nat.lt_or_ge (first + 16 + i) l.length with h | h
    · exact ha' _ h (.inr (by omega))
    · rw [List.getElem?_eq_none h, List.getElem?_eq_none (by omega)]
  have cut : ∀ z : List Bool, z = z.take first ++ ((z.drop first).take 16 ++ z.drop (first + 16)) := by
    intro z
    rw [show z.drop (first + 16) = (z.drop first).drop 16 by rw [List.drop_drop], List.take_append_drop, List.take_append_drop]
  rw [cut l, cut m, hp, hq, feed_append, feed_append, feed_append, feed_append] at e
  have hw := feed_window (by simp [hl']) (by simp; omega) _ (feed_inj e)
  rw [cut l, cut m, hp, hq, hw]

/-- Three lists of one length, bit by bit. -/
theorem csum_three {s : Nat} {xs ys zs ws : List Int} (hs : s < 65536) (hx : Bt xs) (hy : Bt ys) (hz : Bt zs) (hw : Bt ws)
    (h1 : ys.length = xs.length) (h2 : zs.length = xs.length) (h3 : ws.length = xs.length)
    (ha : ∀ i, i < xs.length → ws[i]?.getD 0 = (xs[i]?.getD 0 + ys[i]?.getD 0 + zs[i]?.getD 0) % 2) : csum s ws = csum s xs ^^^ csum s ys ^^^ csum s zs := by
  rw [csum_B' xs hx s hs, csum_B' ys hy s hs, csum_B' zs hz s hs, csum_B' ws hw s hs, ← BitVec.toNat_xor, ← BitVec.toNat_xor]
  congr 1
  rw [← feed_xor _ _ (by simp [toB, h1]), ← feed_xor _ _ (by simp [toB, h1, h2]), BitVec.xor_self, BitVec.zero_xor]
  congr 1
  apply List.ext_getElem
  · simp [toB, h1, h2, h3]
  · intro i g1 g2
    have gx : i < xs.length := by simp [toB, h3] at g1; exact g1
    have gy : i < ys.length := by omega
    have gz : i < zs.length := by omega
    have gw : i < ws.length := by omega
    have := ha i gx
    simp only [gx, gy, gz, gw, List.getElem?_eq_getElem, Option.getD_some] at this
    simp only [toB, List.getElem_zipWith, List.getElem_map]
    rcases hx _ (List.getElem_mem gx) with a | a <;> rcases hy _ (List.getElem_mem gy) with b | b <;> rcases hz _ (List.getElem_mem gz) with c | c <;>
      rw [a, b, c] at this <;> rw [this, a, b, c] <;> decide

/-- Sixteen bits of a number, the highest first. -/
def tail16 (t : Int) : List Int := (List.range 16).map fun i => t / 2 ^ (15 - i) % 2

theorem toB_tail16 (t : Nat) (ht : t < 65536) : toB (tail16 t) = bits16 (BitVec.ofNat 16 t) := by
  unfold toB tail16 bits16
  rw [List.map_map]
  apply List.map_congr_left
  intro i hi
  have hi := List.mem_range.1 hi
  simp only [Function.comp]
  rw [BitVec.getMsbD, decide_eq_true (by omega : i < 16), Bool.true_and, BitVec.getLsbD, BitVec.toNat_ofNat, Nat.mod_eq_of_lt (by omega)]
  have e : 16 - 1 - i = 15 - i := by omega
  show decide ((t : Int) / (2 : Int) ^ (15 - i) % 2 = 1) = t.testBit (16 - 1 - i)
  rw [e, Nat.testBit_eq_decide_div_mod_eq]
  have hc : ((t / 2 ^ (15 - i) % 2 : Nat) : Int) = (t : Int) / (2 : Int) ^ (15 - i) % 2 := by push_cast; rfl
  apply decide_eq_decide.2
  rw [← hc]
  omega

theorem Bt.tail16 (t : Int) : Bt (tail16 t) := by
  intro x hx
  obtain ⟨y, _, rfl⟩ := List.mem_map.1 hx
  omega

/-- Bits with sixteen bits behind: the sum is 0 just where these are the sum's. -/
theorem csum_ends {s t : Nat} {xs : List Int} (hs : s < 65536) (ht : t < 65536) : csum s (xs ++ tail16 t) = 0 ↔ t = csum s xs := by
  have hc := csum_lt s xs hs
  rw [csum_append, csum_B' _ (Bt.tail16 t) _ hc, toB_tail16 t ht]
  constructor
  · intro e
    exact ofNat_inj16 ht hc ((feed_ends _ _).1 (BitVec.eq_of_toNat_eq (by simpa using e)))
  · intro e
    rw [(feed_ends _ _).2 (by rw [← e])]
    rfl
end Go.Proofs.Ytjfbgakebldjcaa
