import Derived.Test.YtmkgfgdipkagbaaProg
import Derived.WalkKit
import Derived.WalkSpells
import Derived.WalkLawsBesides
import Derived.Laws.AppendOwnNone
/-
  Words for memory that all walks of this seat use: a slice that reads as a list of numbers, and how this is kept.
-/

namespace Go.Proofs.Ytmkgfgdipkagbaa
set_option linter.unusedVariables false
open Go.RowKit

theorem hid {p : Prop} (h : p) : Hid p := h

/-- The slice with the address A and the length n reads as the numbers xs of the kind k. -/
def Rd (k : IntKind) (w : World) (A : Option Addr) (n : Nat) (xs : List Int) : Prop :=
  xs.length = n ∧ (0 < n → ∃ b off, A = some ⟨b, off, none⟩ ∧ b < w.heap.size ∧ ∀ i, i < n → w.cell? ⟨b, off + i, none⟩ = some (.int k (xs[i]?.getD 0)))

section
variable {k : IntKind} {w w' : World} {A : Option Addr} {n : Nat} {xs : List Int}
theorem Rd.nil : Rd k w A 0 [] := ⟨rfl, fun h => absurd h (by omega)⟩
theorem Rd.len (h : Rd k w A n xs) : xs.length = n := h.1
theorem Rd.below {B : Nat} (h : Rd k w A n xs) (hb : Below B w w') (hB : w.heap.size ≤ B) : Rd k w' A n xs :=
  ⟨h.1, fun hn => by
    obtain ⟨b, off, e, hlt, hc⟩ := h.2 hn
    refine ⟨b, off, e, Nat.lt_of_lt_of_le hlt hb.size, fun i hi => ?_⟩
    rw [hb.cell (p := ⟨b, off + i, none⟩) (Nat.lt_of_lt_of_le hlt hB)]
    exact hc i hi⟩
end

/-- The slice value v is a row of this call's own, made at or behind the block B; it reads as the numbers xs. -/
def Own (B : Nat) (ty : TypeId) (k : IntKind) (w : World) (v : Value) (xs : List Int) : Prop := w.ownsRow B ty 1 v xs.length (xs.map (Value.int k))

section
variable {B : Nat} {ty : TypeId} {k : IntKind} {w w' : World} {v : Value} {xs : List Int}
theorem Own.mono (h : Own B ty k w v xs) {B' : Nat} (hB : B' ≤ B) : Own B' ty k w v xs := by
  refine ⟨h.1, ?_⟩
  rcases h.2 with h' | ⟨g, cap, cur, hv, hg, r⟩
  · exact .inl h'
  · exact .inr ⟨g, cap, cur, hv, Nat.le_trans hB hg, r⟩
theorem Own.kept {row : Option Nat} (h : Own B ty k w v xs) (hg : w.grownBy w' row) (hne : v.ownBlock = none ∨ v.ownBlock ≠ row) : Own B ty k w' v xs := World.ownsRow.kept h hg hne
theorem Own.alloc (h : Own B ty k w v xs) (o : Obj) : Own B ty k (w.alloc o) v xs := World.ownsRow.alloc h o
theorem Own.below {B' : Nat} (h : Own B ty k w v xs) (hb : Below B' w w') (hB : w.heap.size ≤ B') : Own B ty k w' v xs := by
  refine ⟨h.1, ?_⟩
  rcases h.2 with h' | ⟨g, cap, cur, hv, hg, hh, r⟩
  · exact .inl h'
  · exact .inr ⟨g, cap, cur, hv, hg, (hb.block g (Nat.lt_of_lt_of_le (lt_of_block hh) hB)).trans hh, r⟩
end

/-- The call returned one row of its own that reads as xs; what was there is as it was. -/
def RetOwn (W : World) (ty : TypeId) (k : IntKind) (xs : List Int) (e : Ending) (w' : World) : Prop :=
  ∃ v, e = .returned v ∧ Own W.heap.size ty k w' v xs ∧ Below W.heap.size W w'

theorem Try.info_u8 : (Try.prog.info? 5).map (fun i => (i.zero, i.size, i.bytes)) = some (some (.int .u8 0), 1, 1) := by kernel_rfl

/-! ### The operations on bits of an int, on numbers that are not negative -/
theorem i64_xor_nat (a b : Nat) (ha : a < 9223372036854775808) (hb : b < 9223372036854775808) : bits .xor .i64 (a : Int) (b : Int) = ((a ^^^ b : Nat) : Int) := by
  have hx : a ^^^ b < 2 ^ 63 := Nat.xor_lt_two_pow (by omega) (by omega)
  show IntKind.i64.wrap ((BitVec.ofInt 64 (a : Int) ^^^ BitVec.ofInt 64 (b : Int)).toNat : Int) = _
  rw [BitVec.toNat_xor, ofInt_u64 a (by omega), ofInt_u64 b (by omega), IntKind.wrap_i64]
  omega
theorem i64_and_nat (a b : Nat) (ha : a < 9223372036854775808) (hb : b < 9223372036854775808) : bits .and .i64 (a : Int) (b : Int) = ((a &&& b : Nat) : Int) := by
  have hx : a &&& b < 2 ^ 63 := Nat.and_lt_two_pow _ (by omega)
  show IntKind.i64.wrap ((BitVec.ofInt 64 (a : Int) &&& BitVec.ofInt 64 (b : Int)).toNat : Int) = _
  rw [BitVec.toNat_and, ofInt_u64 a (by omega), ofInt_u64 b (by omega), IntKind.wrap_i64]
  omega

/-! ### A slice that came in -/
/-- What the frame of a law's proof tells of a slice of integers that came in. -/
def IsRow (k : IntKind) (w : World) (a : Option Addr) (len cap : Nat) (zs : List Int) : Prop :=
  (a = none ∧ len = 0 ∧ cap = 0 ∧ zs = []) ∨
  ∃ x, a = some x ∧ len ≤ cap ∧ cap ≤ maxLen ∧ zs.length = cap ∧ (∀ i, i < zs.length → w.cell? (x.add i) = some (.int k (zs.getD i 0))) ∧ ∀ n ∈ zs, (Lit.int k n).wf = true

theorem IsRow.rd {k : IntKind} {w : World} {a : Option Addr} {len cap : Nat} {zs : List Int} (h : IsRow k w a len cap zs) : Rd k w a len (zs.take len) := by
  rcases h with ⟨rfl, rfl, rfl, rfl⟩ | ⟨x, rfl, hl, _, hz, hc, _⟩
  · exact Rd.nil
  · refine ⟨by rw [List.length_take]; omega, fun hn => ?_⟩
    obtain ⟨b, off, spot⟩ := x
    have hc0 := hc 0 (by omega)
    have hspot : spot = none := by simpa [Addr.add] using World.cell?_spot hc0
    subst hspot
    refine ⟨b, off, rfl, ?_, fun i hi => ?_⟩
    · rcases Nat.lt_or_ge b w.heap.size with h | h
      · exact h
      · simp [World.cell?, Addr.add, Array.getElem?_eq_none h] at hc0
    · have := hc i (by omega)
      rw [List.getElem?_take_of_lt hi]
      rw [List.getD_eq_getElem?_getD] at this
      unfold Addr.add at this
      split at this
      · subst_vars; exact this
      · exact this

theorem IsRow.wf {k : IntKind} {w : World} {a : Option Addr} {len cap : Nat} {zs : List Int} (h : IsRow k w a len cap zs) : ∀ n ∈ zs.take len, (Lit.int k n).wf = true := by
  intro n hn
  have hn := List.mem_of_mem_take hn
  rcases h with ⟨rfl, rfl, rfl, rfl⟩ | ⟨x, rfl, hl, _, hz, hc, hw⟩
  · cases hn
  · exact hw n hn
theorem IsRow.len {k : IntKind} {w : World} {a : Option Addr} {len cap : Nat} {zs : List Int} (h : IsRow k w a len cap zs) : len ≤ maxLen ∧ (zs.take len).length = len := by
  rcases h with ⟨rfl, rfl, rfl, rfl⟩ | ⟨x, rfl, hl, hm, hz, hc, hw⟩
  · simp
  · rw [List.length_take]; omega

/-- Every number of the list lies from lo to hi (0 does, too). -/
def In (lo hi : Int) (xs : List Int) : Prop := ∀ x ∈ xs, lo ≤ x ∧ x ≤ hi
theorem In.at_ {lo hi : Int} {xs : List Int} (h : In lo hi xs) (h0 : lo ≤ 0) (h1 : 0 ≤ hi) (k : Nat) : lo ≤ xs[k]?.getD 0 ∧ xs[k]?.getD 0 ≤ hi := by
  rcases hk : xs[k]? with _ | x
  · exact ⟨h0, h1⟩
  · exact h x (List.mem_of_getElem? hk)
/-! ### Bytes as a string -/
def bstr (xs : List Int) : ByteArray := xs.foldl (fun r n => r.push (UInt8.ofNat n.toNat)) ByteArray.empty

/-! ### A row of a fixed length: make, load, store -/
/-- 'make([]T, n)': n noughts, a row of the call's own. -/
theorem wpList_makeI {P : Program} (w : World) {ops : Array Oper} {rest : List Oper} {o : Oper} {a : Act} {Q : Exit → Act → World → Prop} (hg : o.guard = none) (l c : Operand) (t : TypeId) (hop : o.op = Op.makeSlice t l c)
    (e : TypeId) (k : IntKind) (bytes : Nat) (ht : P.underlying t = some (.slice e)) (hinfo : (P.info? e).map (fun i => (i.zero, i.size, i.bytes)) = some (some (.int k 0), 1, bytes)) (hby : bytes ≤ 8)
    (B : Nat) (W : World) (n : Nat) (hbel : Below B W w) (hB : B ≤ w.heap.size) (hn : n < 17592186044416) (kl kc : IntKind) (hl : a.eval l = .int kl n) (hc : a.eval c = .int kc n)
    (h : ∀ w', Own B e k w' (.slice (some ⟨w.heap.size, 0, none⟩) n n) (List.replicate n 0) → Below B W w' → w.heap.size < w'.heap.size → w.grownBy w' none → wpList P ops Q rest (a.put o.dst (.slice (some ⟨w.heap.size, 0, none⟩) n n)) w') : wpList P ops Q (o :: rest) a w := by
  obtain ⟨i0, hi, hz, hsize, hb⟩ := info_parts hinfo
  refine wpList_make_full w hg l c t hop B e i0 (.int k 0) 1 ht hi hz hsize kl kc n n n hl hc rfl rfl ?_ (by unfold maxLen; omega) hB ?_
  · rw [hb]
    have : bytes * n ≤ 8 * n := Nat.mul_le_mul_right _ hby
    omega
  · intro w' hown hgr
    refine h w' ?_ (hbel.grown hgr hB (fun j hj => by cases hj)) ?_ hgr
    · unfold Own
      rw [List.length_replicate, List.map_replicate]
      have e1 : (madeCells (Value.int k 0).cells (n * 1)).toList = List.replicate n (.int k 0) := by rw [Nat.mul_one]; exact toList_madeCells_one _ n
      rw [e1] at hown
      exact hown
    · rcases hown.2 with ⟨h', _⟩ | ⟨g, cap, cur, hv, _, hh, _⟩
      · cases h'
      · injection hv with h1
        injection h1 with h1
        injection h1 with h1
        rw [h1]
        exact lt_of_block hh

section
variable {B : Nat} {ty : TypeId} {k : IntKind} {w : World} {g n c : Nat} {xs : List Int}
theorem Own.drew (h : Own B ty k w (.slice (some ⟨g, 0, none⟩) n c) xs) : Own B ty k w.drew (.slice (some ⟨g, 0, none⟩) n c) xs := h
end
/-! ### A cut of a slice -/
theorem Rd.cut {k : IntKind} {w : World} {A : Option Addr} {n : Nat} {xs : List Int} (h : Rd k w A n xs) (lo m : Nat) (hm : lo + m ≤ n) : Rd k w (A.map (·.add lo)) m ((xs.drop lo).take m) := by
  refine ⟨by rw [List.length_take, List.length_drop, h.1]; omega, fun hpos => ?_⟩
  obtain ⟨b, off, rfl, hb, hc⟩ := h.2 (by omega)
  refine ⟨b, off + lo, ?_, hb, fun i hi => ?_⟩
  · simp only [Option.map_some]
    unfold Addr.add
    split <;> simp_all
  · rw [List.getElem?_take_of_lt hi, List.getElem?_drop, Nat.add_assoc]
    exact hc (lo + i) (by omega)
theorem Rd.take {k : IntKind} {w : World} {A : Option Addr} {n : Nat} {xs : List Int} (h : Rd k w A n xs) (m : Nat) (hm : m ≤ n) : Rd k w A m (xs.take m) := by
  refine ⟨by rw [List.length_take, h.1]; omega, fun hpos => ?_⟩
  obtain ⟨b, off, rfl, hb, hc⟩ := h.2 (by omega)
  exact ⟨b, off, rfl, hb, fun i hi => by rw [List.getElem?_take_of_lt hi]; exact hc i (by omega)⟩
end Go.Proofs.Ytmkgfgdipkagbaa

