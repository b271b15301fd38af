/-
  Plain algebra of the sum of bits: it is linear, a step is undone, and sixteen bits reach each sum once. No program in sight.
-/
import Derived.Test.YtjfbgakebldjcaaCrcP
namespace Go.Proofs.Ytjfbgakebldjcaa
set_option linter.unusedVariables false

/-- One step on 16 bits. -/
def stepB (s : BitVec 16) (b : Bool) : BitVec 16 := if s.msb = b then s <<< 1 else (s <<< 1) ^^^ 0x8005#16
def feed (s : BitVec 16) (l : List Bool) : BitVec 16 := l.foldl stepB s

theorem feed_nil (s : BitVec 16) : feed s [] = s := rfl
theorem feed_cons (s : BitVec 16) (b : Bool) (l : List Bool) : feed s (b :: l) = feed (stepB s b) l := rfl
theorem feed_append (s : BitVec 16) (l m : List Bool) : feed s (l ++ m) = feed (feed s l) m := by simp [feed]

theorem stepB_xor (s t : BitVec 16) (b c : Bool) : stepB (s ^^^ t) (b ^^ c) = stepB s b ^^^ stepB t c := by
  unfold stepB
  rw [BitVec.msb_xor, BitVec.shiftLeft_xor_distrib]
  generalize s <<< 1 = x
  generalize t <<< 1 = y
  generalize s.msb = m
  generalize t.msb = n
  have h : (0x8005#16 : BitVec 16) ^^^ 0x8005#16 = 0#16 := BitVec.xor_self
  cases m <;> cases n <;> cases b <;> cases c <;> simp
  all_goals first
    | ac_rfl
    | (rw [show x ^^^ 32773#16 ^^^ (y ^^^ 32773#16) = x ^^^ y ^^^ (32773#16 ^^^ 32773#16) by ac_rfl]; simp)

theorem stepB_zero : stepB 0#16 false = 0#16 := by decide

theorem stepB_eq_zero {s : BitVec 16} (h : stepB s false = 0#16) : s = 0#16 := by
  unfold stepB at h
  split at h
  · rename_i hm
    apply BitVec.eq_of_toNat_eq
    have h1 := congrArg BitVec.toNat h
    have h2 : s.toNat < 32768 := by
      rw [BitVec.msb_eq_decide] at hm
      simpa using hm
    simp [BitVec.toNat_shiftLeft, Nat.shiftLeft_eq] at h1
    simp
    omega
  · have h1 := congrArg (fun v : BitVec 16 => v.getLsbD 0) h
    simp at h1

theorem stepB_inj {s t : BitVec 16} {b : Bool} (h : stepB s b = stepB t b) : s = t := by
  have h1 := stepB_xor s t b b
  rw [h, BitVec.xor_self, Bool.xor_self] at h1
  have h2 := stepB_eq_zero h1
  exact BitVec.xor_eq_zero_iff.1 h2

theorem feed_inj {l : List Bool} {s t : BitVec 16} (h : feed s l = feed t l) : s = t := by
  induction l generalizing s t with
  | nil => exact h
  | cons b l ih => exact stepB_inj (ih h)

theorem feed_xor (l m : List Bool) (hl : l.length = m.length) (s t : BitVec 16) : feed (s ^^^ t) (List.zipWith (· ^^ ·) l m) = feed s l ^^^ feed t m := by
  induction l generalizing m s t with
  | nil =>
    obtain rfl : m = [] := List.eq_nil_of_length_eq_zero hl.symm
    rfl
  | cons b l ih =>
    rcases m with _ | ⟨c, m⟩
    · cases hl
    · rw [List.zipWith_cons_cons, feed_cons, stepB_xor, ih m (by simpa using hl)]
      rfl

theorem feed_zeros (n : Nat) : feed 0#16 (List.replicate n false) = 0#16 := by
  induction n with
  | zero => rfl
  | succ n ih => rw [List.replicate_succ, feed_cons, stepB_zero]; exact ih

theorem zip_false (l : List Bool) : List.zipWith (· ^^ ·) (List.replicate l.length false) l = l := by
  induction l with
  | nil => rfl
  | cons b l ih => simp [List.replicate_succ, ih]
theorem zip_self (l : List Bool) : List.zipWith (· ^^ ·) l l = List.replicate l.length false := by
  induction l with
  | nil => rfl
  | cons b l ih => rw [List.zipWith_cons_cons, ih]; simp [List.replicate_succ]

/-- The sixteen bits of a number, the highest first. -/
def bits16 (t : BitVec 16) : List Bool := (List.range 16).map fun i => t.getMsbD i

theorem feed_own (t : BitVec 16) (n : Nat) (hn : n ≤ 16) : feed t ((List.range n).map fun i => t.getMsbD i) = t <<< n := by
  induction n with
  | zero => simp [feed]
  | succ n ih =>
    rw [List.range_succ, List.map_append, feed_append, ih (by omega)]
    simp only [List.map_cons, List.map_nil, feed_cons, feed_nil]
    unfold stepB
    rw [if_pos, BitVec.shiftLeft_add]
    rw [BitVec.msb_shiftLeft]

theorem feed_bits16 (s t : BitVec 16) : feed s (bits16 t) = feed (s ^^^ t) (List.replicate 16 false) := by
  have h := feed_xor (List.replicate 16 false) (bits16 t) (by simp [bits16]) (s ^^^ t) t
  have hl : (bits16 t).length = 16 := by simp [bits16]
  rw [show List.replicate 16 false = List.replicate (bits16 t).length false by rw [hl], zip_false, hl] at h
  rw [BitVec.xor_assoc, BitVec.xor_self, BitVec.xor_zero] at h
  rw [h]
  have h0 : feed t (bits16 t) = 0#16 := by
    unfold bits16
    rw [feed_own t 16 (by omega)]
    simp
  rw [h0, BitVec.xor_zero]

theorem feed_zero_of {s : BitVec 16} {n : Nat} (h : feed s (List.replicate n false) = 0#16) : s = 0#16 :=
  feed_inj (h.trans (feed_zeros n).symm)

/-- Bits with sixteen bits behind have the sum 0 just where these are the sum of the bits. -/
theorem feed_ends (s t : BitVec 16) : feed s (bits16 t) = 0#16 ↔ t = s := by
  rw [feed_bits16]
  constructor
  · intro h
    exact (BitVec.xor_eq_zero_iff.1 (feed_zero_of h)).symm
  · rintro rfl
    rw [BitVec.xor_self]
    exact feed_zeros 16

/-- Each list of sixteen bits is a number's. -/
theorem bits16_all (l : List Bool) (hl : l.length = 16) : ∃ t, bits16 t = l := by
  refine ⟨BitVec.ofBoolListBE l |>.cast hl, ?_⟩
  apply List.ext_getElem
  · simp [bits16, hl]
  · intro i h1 h2
    simp only [bits16, List.getElem_map, List.getElem_range]
    simp [BitVec.getMsbD_ofBoolListBE, h2]

theorem feed_short {d : List Bool} (hd : d.length ≤ 16) (h : feed 0#16 d = 0#16) : d = List.replicate d.length false := by
  obtain ⟨t, ht⟩ := bits16_all (d ++ List.replicate (16 - d.length) false) (by simp; omega)
  have h1 : feed 0#16 (bits16 t) = 0#16 := by rw [ht, feed_append, h, feed_zeros]
  have h2 : t = 0#16 := (feed_ends 0#16 t).1 h1
  subst h2
  have h3 : bits16 0#16 = List.replicate 16 false := by decide
  rw [h3] at ht
  refine List.eq_replicate_iff.2 ⟨rfl, fun b hb => ?_⟩
  have : b ∈ List.replicate 16 false := by rw [ht]; exact List.mem_append_left _ hb
  exact List.eq_of_mem_replicate this

theorem feed_window {l m : List Bool} (hl : l.length = m.length) (hd : l.length ≤ 16) (s : BitVec 16) (h : feed s l = feed s m) : l = m := by
  have h1 := feed_xor l m hl s s
  rw [h, BitVec.xor_self, BitVec.xor_self] at h1
  have h2 := feed_short (by simp; omega) h1
  apply List.ext_getElem hl
  intro i h3 h4
  have h5 : (List.zipWith (· ^^ ·) l m)[i]? = some false := by
    rw [h2, List.getElem?_replicate, if_pos (by rw [List.length_zipWith]; omega)]
  simp [List.getElem?_zipWith, h3, h4] at h5
  exact h5
end Go.Proofs.Ytjfbgakebldjcaa
