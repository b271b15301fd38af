import Derived.WalkKit
/-
 Plain numbers: a number's bits, the number of bits, as functions on lists. No program in sight.
-/
namespace Go.Proofs.Ytgheplondkoedaa
set_option linter.unusedVariables false

/-- The bits of a number, so many, the highest first. -/
def bitsOf (n : Nat) : Nat → List Int
 | 0 => []
 | s + 1 => bitsOf (n / 2) s ++ [((n % 2 : Nat) : Int)]

theorem bitsOf_len (n s : Nat) : (bitsOf n s).length = s := by
 induction s generalizing n with
 | zero => rfl
 | succ s ih => simp [bitsOf, ih]

theorem bitsOf_range (n s : Nat) : bitsOf n s = (List.range s).map fun i => ((n / 2 ^ (s - 1 - i) % 2 : Nat) : Int) := by
 induction s generalizing n with
 | zero => rfl
 | succ s ih =>
  rw [bitsOf, ih, List.range_succ, List.map_append]
  congr 1
  ·apply List.map_congr_left
   intro i hi
   have hi := List.mem_range.1 hi
   rw [Nat.div_div_eq_div_mul, ← Nat.pow_succ']
   congr 3
   rw [show (s - 1 - i).succ = s + 1 - 1 - i by omega]
  ·simp

/-- The first j of the bits. -/
theorem bitsOf_take (n s j : Nat) (hj : j ≤ s) : (bitsOf n s).take j = (List.range j).map fun i => ((n / 2 ^ (s - 1 - i) % 2 : Nat) : Int) := by
 rw [bitsOf_range, ← List.map_take, List.take_range, Nat.min_eq_left hj]

theorem bitsOf_bit (n s : Nat) : ∀ x ∈ bitsOf n s, x = 0 ∨ x = 1 := by
 intro x hx
 rw [bitsOf_range] at hx
 obtain ⟨i, _, rfl⟩ := List.mem_map.1 hx
 omega

/-- High bits first, then low bits. -/
theorem bitsOf_add (n a b : Nat) : bitsOf n (a + b) = bitsOf (n / 2 ^ b) a ++ bitsOf (n % 2 ^ b) b := by
 induction b generalizing n with
 | zero => simp [bitsOf]
 | succ b ih =>
  rw [← Nat.add_assoc, bitsOf, ih, bitsOf, List.append_assoc]
  congr 1
  ·rw [Nat.div_div_eq_div_mul, ← Nat.pow_succ']
  ·congr 1
   ·have : n % 2 ^ (b + 1) / 2 = n / 2 % 2 ^ b := by rw [Nat.pow_succ, Nat.mul_comm, Nat.mod_mul_right_div_self]
    rw [this]
   ·have : n % 2 ^ (b + 1) % 2 = n % 2 := Nat.mod_mod_of_dvd _ ⟨2 ^ b, by rw [Nat.pow_succ, Nat.mul_comm]⟩
    rw [this]

theorem snoc_ind {P : List Int → Prop} (h0 : P []) (hs : ∀ xs x, P xs → P (xs ++ [x])) (xs : List Int) : P xs := by
 have h : ∀ l : List Int, P l.reverse := by
  intro l
  induction l with
  | nil => exact h0
  | cons x l ih => rw [List.reverse_cons]; exact hs _ _ ih
 have := h xs.reverse
 rwa [List.reverse_reverse] at this

/-- The number of some bits. -/
def numOf (xs : List Int) : Nat := xs.foldl (fun n x => 2 * n + x.toNat) 0

theorem numOf_snoc (xs : List Int) (x : Int) : numOf (xs ++ [x]) = 2 * numOf xs + x.toNat := by simp [numOf]

theorem numOf_lt (xs : List Int) : (∀ x ∈ xs, x = 0 ∨ x = 1) → numOf xs < 2 ^ xs.length := by
 refine snoc_ind (P := fun xs => (∀ x ∈ xs, x = 0 ∨ x = 1) → numOf xs < 2 ^ xs.length) (fun _ => by simp [numOf]) (fun xs x ih h => ?_) xs
 have h1 := ih (fun y hy => h y (by simp [hy]))
 have h2 := h x (by simp)
 rw [numOf_snoc, List.length_append, List.length_singleton, Nat.pow_succ]
 rcases h2 with rfl | rfl <;> simp <;> omega

theorem numOf_bitsOf (n s : Nat) (h : n < 2 ^ s) : numOf (bitsOf n s) = n := by
 induction s generalizing n with
 | zero =>
  have : n = 0 := by simp at h; exact h
  subst this
  rfl
 | succ s ih =>
  rw [bitsOf, numOf_snoc, ih (n / 2) (by rw [Nat.pow_succ] at h; omega)]
  omega

theorem bitsOf_numOf (xs : List Int) : (∀ x ∈ xs, x = 0 ∨ x = 1) → bitsOf (numOf xs) xs.length = xs := by
 refine snoc_ind (P := fun xs => (∀ x ∈ xs, x = 0 ∨ x = 1) → bitsOf (numOf xs) xs.length = xs) (fun _ => rfl) (fun xs x ih h => ?_) xs
 have h2 := h x (by simp)
 rw [List.length_append, List.length_singleton, bitsOf, numOf_snoc]
 have e1 : (2 * numOf xs + x.toNat) / 2 = numOf xs := by rcases h2 with rfl | rfl <;> simp <;> omega
 have e2 : (((2 * numOf xs + x.toNat) % 2 : Nat) : Int) = x := by rcases h2 with rfl | rfl <;> simp <;> omega
 rw [e1, e2, ih (fun y hy => h y (by simp [hy]))]

/-! ### What Put and Get answer -/
/-- May a number be put in so many bits? -/
def putOk (n size : Int) : Bool := decide (0 ≤ size ∧ size ≤ 31 ∧ 0 ≤ n ∧ n < 2 ^ size.toNat)
def putL (b : List Int) (n size : Int) : List Int := if putOk n size = true then b ++ bitsOf n.toNat size.toNat else []
def putE (n size : Int) : Int := if putOk n size = true then 0 else 2

/-- The error of Get: 2 (numbers that may not be), 5 (too few bits), 8 (no bit), or 0. -/
def getE (b : List Int) (at_ size : Int) : Int :=
 if 0 ≤ size ∧ size ≤ 31 ∧ 0 ≤ at_ ∧ at_ ≤ b.length then
  (if (b.length : Int) - at_ < size then 5 else if ((b.drop at_.toNat).take size.toNat).all (fun x => decide (x ≤ 1)) = true then 0 else 8)
 else 2
def getN (b : List Int) (at_ size : Int) : Int := if getE b at_ size = 0 then (numOf ((b.drop at_.toNat).take size.toNat) : Int) else 0
def getP (b : List Int) (at_ size : Int) : Int := if getE b at_ size = 0 then at_ + size else 0

theorem cut_at (xs : List Int) (a s k : Nat) (hk : k < s) (ha : a + s ≤ xs.length) : ((xs.drop a).take s)[k]?.getD 0 = xs[a + k]?.getD 0 := by
 rw [List.getElem?_take_of_lt hk, List.getElem?_drop]
theorem cut_succ (xs : List Int) (a k : Nat) (h : a + k < xs.length) : (xs.drop a).take (k + 1) = (xs.drop a).take k ++ [xs[a + k]?.getD 0] := by
 rw [List.take_succ_eq_append_getElem (by rw [List.length_drop]; omega)]
 rw [List.getElem_drop, List.getElem?_eq_getElem h]
 rfl
theorem cut_len (xs : List Int) (a s : Nat) (h : a + s ≤ xs.length) : ((xs.drop a).take s).length = s := by
 rw [List.length_take, List.length_drop]; omega
theorem bits_of_le {ys : List Int} (hp : ∀ y ∈ ys, 0 ≤ y) (h : ys.all (fun x => decide (x ≤ 1)) = true) : ∀ y ∈ ys, y = 0 ∨ y = 1 := by
 intro y hy
 have h1 := List.all_eq_true.1 h y hy
 have h2 := hp y hy
 simp at h1
 omega

theorem getE_arg {b : List Int} {at_ size : Int} (h : ¬ (0 ≤ size ∧ size ≤ 31 ∧ 0 ≤ at_ ∧ at_ ≤ b.length)) : getE b at_ size = 2 := by unfold getE; rw [if_neg h]
theorem getE_end {b : List Int} {at_ size : Int} (h : 0 ≤ size ∧ size ≤ 31 ∧ 0 ≤ at_ ∧ at_ ≤ b.length) (h2 : (b.length : Int) - at_ < size) : getE b at_ size = 5 := by unfold getE; rw [if_pos h, if_pos h2]
theorem getE_bad {b : List Int} {a s : Nat} (hs : s ≤ 31) (h : a + s ≤ b.length) (hb : ((b.drop a).take s).all (fun x => decide (x ≤ 1)) = false) : getE b a s = 8 := by
 unfold getE
 rw [if_pos (by omega), if_neg (by omega), Int.toNat_natCast, Int.toNat_natCast, hb]
 rfl
theorem getE_ok {b : List Int} {a s : Nat} (hs : s ≤ 31) (h : a + s ≤ b.length) (hb : ((b.drop a).take s).all (fun x => decide (x ≤ 1)) = true) : getE b a s = 0 := by
 unfold getE
 rw [if_pos (by omega), if_neg (by omega), Int.toNat_natCast, Int.toNat_natCast, hb]
 rfl
theorem getN_ok {b : List Int} {a s : Nat} (hs : s ≤ 31) (h : a + s ≤ b.length) (hb : ((b.drop a).take s).all (fun x => decide (x ≤ 1)) = true) : getN b a s = (numOf ((b.drop a).take s) : Int) := by
 unfold getN
 rw [if_pos (getE_ok hs h hb), Int.toNat_natCast, Int.toNat_natCast]
theorem getP_ok {b : List Int} {a s : Nat} (hs : s ≤ 31) (h : a + s ≤ b.length) (hb : ((b.drop a).take s).all (fun x => decide (x ≤ 1)) = true) : getP b a s = a + s := by
 unfold getP
 rw [if_pos (getE_ok hs h hb)]
theorem getN_no {b : List Int} {at_ size : Int} (h : getE b at_ size ≠ 0) : getN b at_ size = 0 := by unfold getN; rw [if_neg h]
theorem getP_no {b : List Int} {at_ size : Int} (h : getE b at_ size ≠ 0) : getP b at_ size = 0 := by unfold getP; rw [if_neg h]

theorem putL_yes {b : List Int} {n s : Int} (h : putOk n s = true) : putL b n s = b ++ bitsOf n.toNat s.toNat := by unfold putL; rw [if_pos h]
theorem putE_yes {n s : Int} (h : putOk n s = true) : putE n s = 0 := by unfold putE; rw [if_pos h]
theorem putOk_nat {n s : Nat} (hs : s ≤ 31) (h : n < 2 ^ s) : putOk n s = true := by
 unfold putOk
 rw [decide_eq_true]
 rw [Int.toNat_natCast, show (2 : Int) ^ s = ((2 ^ s : Nat) : Int) by push_cast; rfl]
 omega
theorem putL_nat {b : List Int} {n s : Nat} (hs : s ≤ 31) (h : n < 2 ^ s) : putL b n s = b ++ bitsOf n s := by rw [putL_yes (putOk_nat hs h), Int.toNat_natCast, Int.toNat_natCast]

theorem back_cut (xs ys : List Int) (n s : Nat) : ((xs ++ bitsOf n s ++ ys).drop xs.length).take s = bitsOf n s := by
 rw [List.append_assoc, List.drop_left]
 have := List.take_left (l₁ := bitsOf n s) (l₂ := ys)
 rwa [bitsOf_len] at this
theorem bitsOf_all (n s : Nat) : (bitsOf n s).all (fun x => decide (x ≤ 1)) = true :=
 List.all_eq_true.2 (fun y hy => by rcases bitsOf_bit n s y hy with rfl | rfl <;> rfl)
theorem back_get (xs ys : List Int) (n s la : Nat) (hl : xs.length = la) (hs : s ≤ 31) (hn : n < 2 ^ s) :
  getN (xs ++ bitsOf n s ++ ys) la s = n ∧ getP (xs ++ bitsOf n s ++ ys) la s = la + s ∧ getE (xs ++ bitsOf n s ++ ys) la s = 0 := by
 subst hl
 have hc := back_cut xs ys n s
 have hle : xs.length + s ≤ (xs ++ bitsOf n s ++ ys).length := by simp only [List.length_append, bitsOf_len]; omega
 have hb : (((xs ++ bitsOf n s ++ ys).drop xs.length).take s).all (fun x => decide (x ≤ 1)) = true := by rw [hc]; exact bitsOf_all n s
 refine ⟨?_, getP_ok hs hle hb, getE_ok hs hle hb⟩
 rw [getN_ok hs hle hb, hc, numOf_bitsOf n s hn]

/-- What is got is put as these bits. -/
theorem got_put {ys : List Int} {a s : Nat} (hp : ∀ y ∈ ys, 0 ≤ y) (hs : s ≤ 31) (h : a + s ≤ ys.length) (he : getE ys a s = 0) :
  getN ys a s = (numOf ((ys.drop a).take s) : Int) ∧ getP ys a s = a + s ∧ numOf ((ys.drop a).take s) < 2 ^ s ∧ bitsOf (numOf ((ys.drop a).take s)) s = (ys.drop a).take s := by
 have hb : ((ys.drop a).take s).all (fun x => decide (x ≤ 1)) = true := by
  by_cases hb : ((ys.drop a).take s).all (fun x => decide (x ≤ 1)) = true
  ·exact hb
  ·have := getE_bad hs h (by simpa using hb)
   omega
 have h1 := bits_of_le (fun y hy => hp y (List.mem_of_mem_drop (List.mem_of_mem_take hy))) hb
 have hl := cut_len ys a s h
 have h2 := numOf_lt _ h1
 have h3 := bitsOf_numOf _ h1
 rw [hl] at h2 h3
 exact ⟨getN_ok hs h hb, getP_ok hs h hb, h2, h3⟩
theorem getE_zero {b : List Int} {at_ size : Int} (h : getE b at_ size = 0) : 0 ≤ size ∧ size ≤ 31 ∧ 0 ≤ at_ ∧ at_ + size ≤ b.length := by
 unfold getE at h
 split at h
 ·split at h
  ·cases h
  ·omega
 ·cases h
end Go.Proofs.Ytgheplondkoedaa

