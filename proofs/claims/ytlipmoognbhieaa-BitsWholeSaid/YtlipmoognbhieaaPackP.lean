/-
  Plain numbers: bits as bytes, bytes as bits. No program in sight.
-/
import Derived.Test.YtlipmoognbhieaaBitsP
namespace Go.Proofs.Ytlipmoognbhieaa
set_option linter.unusedVariables false

def bitAt (xs : List Int) (m : Nat) : Nat := (xs[m]?.getD 0).toNat
def byteAt (xs : List Int) (j : Nat) : Nat :=
  128 * bitAt xs (8 * j) + 64 * bitAt xs (8 * j + 1) + 32 * bitAt xs (8 * j + 2) + 16 * bitAt xs (8 * j + 3) + 8 * bitAt xs (8 * j + 4) + 4 * bitAt xs (8 * j + 5) + 2 * bitAt xs (8 * j + 6) + bitAt xs (8 * j + 7)
def packL (xs : List Int) : List Int := (List.range ((xs.length + 7) / 8)).map fun j => (byteAt xs j : Int)
def le1 (xs : List Int) : Bool := xs.all fun x => decide (x ≤ 1)
def packE (xs : List Int) : Int := if 16777216 < xs.length then 3 else if le1 xs = true then 0 else 8
def packR (xs : List Int) : List Int := if packE xs = 0 then packL xs else []

theorem bitAt_take (xs : List Int) (k m : Nat) : bitAt (xs.take k) m = if m < k then bitAt xs m else 0 := by
  unfold bitAt
  rw [List.getElem?_take]
  split <;> rfl

theorem packL_len (xs : List Int) : (packL xs).length = (xs.length + 7) / 8 := by simp [packL]

theorem byte_other (xs : List Int) (k j : Nat) (hj : j ≠ k / 8) : byteAt (xs.take (k + 1)) j = byteAt (xs.take k) j := by
  unfold byteAt
  simp only [bitAt_take]
  have e : ∀ i, i < 8 → ((8 * j + i < k + 1) ↔ (8 * j + i < k)) := fun i hi => by omega
  have e0 : (8 * j < k + 1) ↔ (8 * j < k) := e 0 (by omega)
  simp only [e0, e 1 (by omega), e 2 (by omega), e 3 (by omega), e 4 (by omega), e 5 (by omega), e 6 (by omega), e 7 (by omega)]

theorem byte_step (xs : List Int) (k : Nat) : byteAt (xs.take (k + 1)) (k / 8) = byteAt (xs.take k) (k / 8) + bitAt xs k * 2 ^ (7 - k % 8) ∧ byteAt (xs.take k) (k / 8) % 2 ^ (8 - k % 8) = 0 := by
  obtain ⟨q, r, hk, hr⟩ : ∃ q r, k = 8 * q + r ∧ r < 8 := ⟨k / 8, k % 8, by omega, by omega⟩
  have hq : k / 8 = q := by omega
  have hm : k % 8 = r := by omega
  rw [hq, hm, hk]
  have t : ∀ k' i, bitAt (xs.take (8 * q + k')) (8 * q + i) = if i < k' then bitAt xs (8 * q + i) else 0 := fun k' i => by
    rw [bitAt_take]
    by_cases h : i < k'
    · rw [if_pos (by omega), if_pos h]
    · rw [if_neg (by omega), if_neg h]
  have t0 : ∀ k', bitAt (xs.take (8 * q + k')) (8 * q) = if 0 < k' then bitAt xs (8 * q) else 0 := fun k' => t k' 0
  unfold byteAt
  simp only [Nat.add_assoc (8 * q) r 1, t, t0]
  have hc : r = 0 ∨ r = 1 ∨ r = 2 ∨ r = 3 ∨ r = 4 ∨ r = 5 ∨ r = 6 ∨ r = 7 := by omega
  rcases hc with rfl | rfl | rfl | rfl | rfl | rfl | rfl | rfl <;> simp <;> omega

theorem byte_lt (xs : List Int) (h : ∀ m, bitAt xs m ≤ 1) (j : Nat) : byteAt xs j ≤ 255 := by
  unfold byteAt
  have := h (8 * j); have := h (8 * j + 1); have := h (8 * j + 2); have := h (8 * j + 3); have := h (8 * j + 4); have := h (8 * j + 5); have := h (8 * j + 6); have := h (8 * j + 7)
  omega

theorem le1_at {xs : List Int} (h : le1 xs = true) (m : Nat) : xs[m]?.getD 0 ≤ 1 := by
  rcases hm : xs[m]? with _ | x
  · simp
  · have := List.all_eq_true.1 h x (List.mem_of_getElem? hm)
    simpa using this
theorem le1_not {xs : List Int} (m : Nat) (hm : m < xs.length) (h : 1 < xs[m]?.getD 0) : le1 xs = false := by
  by_cases hb : le1 xs = true
  · have := le1_at hb m
    omega
  · simpa using hb
theorem le1_of {xs : List Int} (h : ∀ m, m < xs.length → xs[m]?.getD 0 ≤ 1) : le1 xs = true := by
  unfold le1
  rw [List.all_eq_true]
  intro x hx
  obtain ⟨k, hk, rfl⟩ := List.mem_iff_getElem.1 hx
  have := h k hk
  simpa [hk] using this
theorem packE_big {xs : List Int} (h : 16777216 < xs.length) : packE xs = 3 := by unfold packE; rw [if_pos h]
theorem packE_bad {xs : List Int} (h : ¬ 16777216 < xs.length) (h1 : le1 xs = false) : packE xs = 8 := by unfold packE; rw [if_neg h, h1]; rfl
theorem packE_ok {xs : List Int} (h : ¬ 16777216 < xs.length) (h1 : le1 xs = true) : packE xs = 0 := by unfold packE; rw [if_neg h, h1]; rfl
theorem packR_no {xs : List Int} (h : packE xs ≠ 0) : packR xs = [] := by unfold packR; rw [if_neg h]
theorem packR_ok {xs : List Int} (h : packE xs = 0) : packR xs = packL xs := by unfold packR; rw [if_pos h]

theorem packL_of {xs zs : List Int} (hl : zs.length = (xs.length + 7) / 8) (h : ∀ j, j < (xs.length + 7) / 8 → zs[j]?.getD 0 = byteAt xs j) : zs = packL xs := by
  apply List.ext_getElem
  · rw [hl, packL_len]
  · intro j h1 h2
    have := h j (by omega)
    rw [List.getElem?_eq_getElem h1] at this
    simp only [packL, List.getElem_map, List.getElem_range]
    exact this

/-! ### Bytes as bits -/
def openL (xs : List Int) : List Int := xs.flatMap fun x => bitsOf x.toNat 8
def unpackE (xs : List Int) : Int := if 2097152 < xs.length then 3 else 0
def unpackR (xs : List Int) : List Int := if 2097152 < xs.length then [] else openL xs

theorem openL_len (xs : List Int) : (openL xs).length = 8 * xs.length := by
  induction xs with
  | nil => rfl
  | cons x r ih => simp only [openL, List.flatMap_cons, List.length_append, bitsOf_len, List.length_cons] at ih ⊢; omega
theorem openL_snoc (xs : List Int) (x : Int) : openL (xs ++ [x]) = openL xs ++ bitsOf x.toNat 8 := by simp [openL]
theorem openL_take (xs : List Int) (k : Nat) (h : k < xs.length) : openL (xs.take (k + 1)) = openL (xs.take k) ++ bitsOf (xs[k]?.getD 0).toNat 8 := by
  rw [List.take_succ_eq_append_getElem h, openL_snoc, List.getElem?_eq_getElem h]
  rfl

/-- The number of the first i bits from a on. -/
def partAt (xs : List Int) (a : Nat) : Nat → Nat
  | 0 => 0
  | i + 1 => 2 * partAt xs a i + bitAt xs (a + i)
theorem partAt_8 (xs : List Int) (j : Nat) : partAt xs (8 * j) 8 = byteAt xs j := by
  simp only [partAt, byteAt, Nat.add_zero]
  omega
theorem partAt_lt (xs : List Int) (h : ∀ m, bitAt xs m ≤ 1) (a i : Nat) : partAt xs a i < 2 ^ i := by
  induction i with
  | zero => simp [partAt]
  | succ i ih =>
    have := h (a + i)
    rw [partAt, Nat.pow_succ]
    omega
theorem bitAt_none (xs : List Int) (m : Nat) (h : xs.length ≤ m) : bitAt xs m = 0 := by
  unfold bitAt
  rw [List.getElem?_eq_none h]
  rfl
theorem packL_take (xs : List Int) (q : Nat) : (List.range (q + 1)).map (fun j => (byteAt xs j : Int)) = (List.range q).map (fun j => (byteAt xs j : Int)) ++ [(byteAt xs q : Int)] := by
  rw [List.range_succ, List.map_append]; rfl
theorem bitAt_le {xs : List Int} (h : le1 xs = true) (m : Nat) : bitAt xs m ≤ 1 := by
  have := le1_at h m
  unfold bitAt
  omega

theorem openL_bit (xs : List Int) : ∀ (j i : Nat), j < xs.length → i < 8 → bitAt (openL xs) (8 * j + i) = (xs[j]?.getD 0).toNat / 2 ^ (7 - i) % 2 := by
  induction xs with
  | nil => intro j i hj; simp at hj
  | cons x r ih =>
    intro j i hj hi
    have ho : openL (x :: r) = bitsOf x.toNat 8 ++ openL r := rfl
    rcases j with _ | j
    · have hlt : i < (bitsOf x.toNat 8).length := by rw [bitsOf_len]; exact hi
      unfold bitAt
      rw [ho, Nat.mul_zero, Nat.zero_add, List.getElem?_append_left hlt, bitsOf_range, List.getElem?_map, List.getElem?_range hi]
      show (((x.toNat / 2 ^ (8 - 1 - i) % 2 : Nat) : Int)).toNat = x.toNat / 2 ^ (7 - i) % 2
      rw [Int.toNat_natCast]
    · have h := ih j i (by simpa using hj) hi
      unfold bitAt at h ⊢
      rw [ho, List.getElem?_append_right (by rw [bitsOf_len]; omega), bitsOf_len, show 8 * (j + 1) + i - 8 = 8 * j + i by omega, h]
      simp

theorem byte_open (xs : List Int) (j : Nat) (hj : j < xs.length) (hx : (xs[j]?.getD 0).toNat < 256) : byteAt (openL xs) j = (xs[j]?.getD 0).toNat := by
  unfold byteAt
  rw [show bitAt (openL xs) (8 * j) = bitAt (openL xs) (8 * j + 0) from rfl, openL_bit xs j 0 hj (by omega), openL_bit xs j 1 hj (by omega), openL_bit xs j 2 hj (by omega), openL_bit xs j 3 hj (by omega), openL_bit xs j 4 hj (by omega), openL_bit xs j 5 hj (by omega), openL_bit xs j 6 hj (by omega), openL_bit xs j 7 hj (by omega)]
  generalize (xs[j]?.getD 0).toNat = v at *
  simp
  omega

theorem openL_le1 (xs : List Int) : le1 (openL xs) = true := by
  unfold le1 openL
  rw [List.all_eq_true]
  intro y hy
  obtain ⟨x, _, h⟩ := List.mem_flatMap.1 hy
  rcases bitsOf_bit _ _ y h with rfl | rfl <;> rfl

theorem pack_open (xs : List Int) (hp : ∀ k : Nat, 0 ≤ xs[k]?.getD 0 ∧ xs[k]?.getD 0 ≤ 255) : packL (openL xs) = xs := by
  have hl : (packL (openL xs)).length = xs.length := by rw [packL_len, openL_len]; omega
  apply List.ext_getElem hl
  intro j h1 h2
  have hb := hp j
  have := byte_open xs j h2 (by omega)
  simp only [packL, List.getElem_map, List.getElem_range]
  rw [this]
  rw [List.getElem?_eq_getElem h2] at hb ⊢
  simp only [Option.getD_some] at hb ⊢
  omega

theorem byte_bit (xs : List Int) (h : ∀ m, bitAt xs m ≤ 1) (j i : Nat) (hi : i < 8) : byteAt xs j / 2 ^ (7 - i) % 2 = bitAt xs (8 * j + i) := by
  unfold byteAt
  have h0 := h (8 * j); have h1 := h (8 * j + 1); have h2 := h (8 * j + 2); have h3 := h (8 * j + 3); have h4 := h (8 * j + 4); have h5 := h (8 * j + 5); have h6 := h (8 * j + 6); have h7 := h (8 * j + 7)
  have hc : i = 0 ∨ i = 1 ∨ i = 2 ∨ i = 3 ∨ i = 4 ∨ i = 5 ∨ i = 6 ∨ i = 7 := by omega
  rcases hc with rfl | rfl | rfl | rfl | rfl | rfl | rfl | rfl <;> simp <;> omega

theorem open_pack (xs : List Int) (h1 : le1 xs = true) (m : Nat) (hm : m < 8 * ((xs.length + 7) / 8)) : bitAt (openL (packL xs)) m = bitAt xs m := by
  obtain ⟨j, i, rfl, hi⟩ : ∃ j i, m = 8 * j + i ∧ i < 8 := ⟨m / 8, m % 8, by omega, by omega⟩
  have hj : j < (packL xs).length := by rw [packL_len]; omega
  rw [openL_bit _ j i hj hi, ← byte_bit xs (bitAt_le h1) j i hi, List.getElem?_eq_getElem hj]
  simp [packL]

theorem open_pack_take (xs : List Int) (h1 : le1 xs = true) (hp : ∀ k : Nat, 0 ≤ xs[k]?.getD 0 ∧ xs[k]?.getD 0 ≤ 255) : (openL (packL xs)).take xs.length = xs := by
  have hl : (openL (packL xs)).length = 8 * ((xs.length + 7) / 8) := by rw [openL_len, packL_len]
  apply List.ext_getElem
  · rw [List.length_take, hl]; omega
  · intro m g1 g2
    have h := open_pack xs h1 m (by omega)
    have hb := hp m
    unfold bitAt at h
    rw [List.getElem?_eq_getElem (by omega : m < (openL (packL xs)).length), List.getElem?_eq_getElem g2] at h
    rw [List.getElem?_eq_getElem g2] at hb
    simp only [Option.getD_some] at h hb
    rw [List.getElem_take]
    have hz : (openL (packL xs))[m] = 0 ∨ (openL (packL xs))[m] = 1 := by
      have hmem := List.getElem_mem (l := openL (packL xs)) (n := m) (by omega)
      obtain ⟨x, _, hx⟩ := List.mem_flatMap.1 hmem
      exact bitsOf_bit _ _ _ hx
    omega
theorem open_pack_rest (xs : List Int) (h1 : le1 xs = true) (m : Nat) (h : xs.length ≤ m) (hm : m < 8 * ((xs.length + 7) / 8)) : (openL (packL xs))[m]?.getD 0 = 0 := by
  have h2 := open_pack xs h1 m hm
  rw [bitAt_none xs m h] at h2
  unfold bitAt at h2
  have hlt : m < (openL (packL xs)).length := by rw [openL_len, packL_len]; exact hm
  rw [List.getElem?_eq_getElem hlt] at h2 ⊢
  simp only [Option.getD_some] at h2 ⊢
  have hmem := List.getElem_mem (l := openL (packL xs)) (n := m) hlt
  obtain ⟨x, _, hx⟩ := List.mem_flatMap.1 hmem
  rcases bitsOf_bit _ _ _ hx with h | h <;> omega
end Go.Proofs.Ytlipmoognbhieaa
