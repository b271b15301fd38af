/-
  Words for memory that all walks of this seat use: a slice that reads as a list of numbers, and how this is kept.
-/
import Derived.Test.YtjfbgakebldjcaaProg
import Derived.WalkKit
import Derived.WalkSpells
import Derived.WalkLawsBesides
import Derived.Laws.AppendOwnNone

namespace Go.Proofs.Ytjfbgakebldjcaa
set_option linter.unusedVariables false
open Go.RowKit

theorem hid {p : Prop} (h : p) : Hid p := h

/-- The slice with the address A and the length n reads as the numbers xs of the kind k. -/
def Rd (k : IntKind) (w : World) (A : Option Addr) (n : Nat) (xs : List Int) : Prop :=
  xs.length = n ∧ (0 < n → ∃ b off, A = some ⟨b, off, none⟩ ∧ b < w.heap.size ∧ ∀ i, i < n → w.cell? ⟨b, off + i, none⟩ = some (.int k (xs[i]?.getD 0)))

section
variable {k : IntKind} {w w' : World} {A : Option Addr} {n : Nat} {xs : List Int}
theorem Rd.nil : Rd k w A 0 [] := ⟨rfl, fun h => absurd h (by omega)⟩
theorem Rd.len (h : Rd k w A n xs) : xs.length = n := h.1
theorem Rd.below {B : Nat} (h : Rd k w A n xs) (hb : Below B w w') (hB : w.heap.size ≤ B) : Rd k w' A n xs :=
  ⟨h.1, fun hn => by
    obtain ⟨b, off, e, hlt, hc⟩ := h.2 hn
    refine ⟨b, off, e, Nat.lt_of_lt_of_le hlt hb.size, fun i hi => ?_⟩
    rw [hb.cell (p := ⟨b, off + i, none⟩) (Nat.lt_of_lt_of_le hlt hB)]
    exact hc i hi⟩
end

theorem Rd.lit {k : IntKind} (w : World) (xs : List Int) (ty : TypeId) (cs : Array Value) (h : cs = (xs.map (Value.int k)).toArray) {n : Nat} (hn : xs.length = n) : Rd k (w.alloc (.cells cs ty)) (some ⟨w.heap.size, 0, none⟩) n xs := by
  refine ⟨hn, fun _ => ⟨w.heap.size, 0, rfl, by simp, fun i hi => ?_⟩⟩
  subst h
  rw [World.cell?_alloc_at _ _ _ _ rfl]
  have : i < xs.length := by omega
  simp [this]

/-- The slice value v is a row of this call's own, made at or behind the block B; it reads as the numbers xs. -/
def Own (B : Nat) (ty : TypeId) (k : IntKind) (w : World) (v : Value) (xs : List Int) : Prop := w.ownsRow B ty 1 v xs.length (xs.map (Value.int k))

section
variable {B : Nat} {ty : TypeId} {k : IntKind} {w w' : World} {v : Value} {xs : List Int}
theorem Own.none_ : Own B ty k w (.slice none 0 0) [] := World.ownsRow_nil w B ty 1
theorem Own.form (h : Own B ty k w v xs) : ∃ A c, v = .slice A xs.length c ∧ Rd k w A xs.length xs := by
  rcases h.2 with ⟨rfl, hn⟩ | ⟨g, cap, cur, rfl, hg, hh, hnc, hm, hs, ht⟩
  · have hx : xs = [] := List.eq_nil_of_length_eq_zero hn
    subst hx
    exact ⟨none, 0, rfl, Rd.nil⟩
  · refine ⟨_, _, rfl, rfl, fun hn => ⟨g, 0, rfl, lt_of_block hh, fun i hi => ?_⟩⟩
    rw [World.ownsRow.cellAt (xs := xs.map (Value.int k)) h (0 + i) (by omega)]
    simp [hi]
theorem Own.mono (h : Own B ty k w v xs) {B' : Nat} (hB : B' ≤ B) : Own B' ty k w v xs := by
  refine ⟨h.1, ?_⟩
  rcases h.2 with h' | ⟨g, cap, cur, hv, hg, r⟩
  · exact .inl h'
  · exact .inr ⟨g, cap, cur, hv, Nat.le_trans hB hg, r⟩
theorem Own.kept {row : Option Nat} (h : Own B ty k w v xs) (hg : w.grownBy w' row) (hne : v.ownBlock = none ∨ v.ownBlock ≠ row) : Own B ty k w' v xs := World.ownsRow.kept h hg hne
theorem Own.alloc (h : Own B ty k w v xs) (o : Obj) : Own B ty k (w.alloc o) v xs := World.ownsRow.alloc h o
theorem Own.below {B' : Nat} (h : Own B ty k w v xs) (hb : Below B' w w') (hB : w.heap.size ≤ B') : Own B ty k w' v xs := by
  refine ⟨h.1, ?_⟩
  rcases h.2 with h' | ⟨g, cap, cur, hv, hg, hh, r⟩
  · exact .inl h'
  · exact .inr ⟨g, cap, cur, hv, hg, (hb.block g (Nat.lt_of_lt_of_le (lt_of_block hh) hB)).trans hh, r⟩
end

/-- The append of one number to a row of the call's own. -/
theorem wpList_push {P : Program} (w : World) {ops : Array Oper} {rest : List Oper} {o : Oper} {a : Act} {Q : Exit → Act → World → Prop} (hgd : o.guard = none) (s x : Operand) (t : TypeId)
    (ho : o.op = .call { callee := .builtin .append, args := #[s, x], argTypes := #[t, t] })
    (e : TypeId) (k : IntKind) (bytes : Nat) (ht : P.underlying t = some (.slice e)) (hinfo : (P.info? e).map (fun i => (i.zero, i.size, i.bytes)) = some (some (.int k 0), 1, bytes)) (hby : bytes ≤ 8)
    (B : Nat) (W : World) (v : Value) (xs : List Int) (y : Int) (hown : Own B e k w v xs) (hbel : Below B W w) (hB : B ≤ w.heap.size) (hlen : xs.length < 17592186044416) (hs : a.eval s = v)
    (hx : a.eval x = .slice (some ⟨w.heap.size, 0, none⟩) 1 1)
    (h : ∀ v' w', Own B e k w' v' (xs ++ [y]) → Below B W w' → w.heap.size < w'.heap.size → w.grownBy w' v.ownBlock → wpList P ops Q rest (a.put o.dst v') w') : wpList P ops Q (o :: rest) a (w.alloc (.cells #[.int k y] e)) := by
  obtain ⟨i0, hi, hz, hsize, hb⟩ := info_parts hinfo
  refine wpList_append_own (w.alloc (.cells #[.int k y] e)) hgd s x t ho B e i0 (.int k 0) 1 bytes ht hi hz hsize hb rfl (by omega) v xs.length (xs.map (Value.int k)) hs (World.ownsRow.alloc hown _)
    ⟨w.heap.size, 0, none⟩ 1 1 [.int k y] hx rfl ?_ (fun u hu => by simp at hu; subst hu; rfl) (by unfold maxLen; omega) ?_ (by simp; omega) ?_
  · exact cell_one_new _ _ _
  · have : (xs.length + 1) * bytes ≤ (xs.length + 1) * 8 := Nat.mul_le_mul_left _ hby
    omega
  · intro v' w' hown' hg _
    have hg' : w.grownBy w' v.ownBlock := by
      have ha := World.grownBy_alloc w (.cells #[.int k y] e) v.ownBlock
      refine ⟨hg.os.trans ha.os, hg.tape.trans ha.tape, hg.output.trans ha.output, Nat.le_trans ha.size hg.size, fun j hj hne => (hg.block j (Nat.lt_of_lt_of_le hj ha.size) hne).trans (ha.block j hj hne)⟩
    refine h v' w' ?_ (hbel.grown hg' hB (fun j hj => (hown.lt j hj).1)) ?_ hg'
    · unfold Own
      simpa using hown'
    · have := hg.size
      simp at this
      omega

/-- The call returned one row of its own that reads as xs; what was there is as it was. -/
def RetOwn (W : World) (ty : TypeId) (k : IntKind) (xs : List Int) (e : Ending) (w' : World) : Prop :=
  ∃ v, e = .returned v ∧ Own W.heap.size ty k w' v xs ∧ Below W.heap.size W w'

theorem tup2 {k1 k2 : IntKind} {a b c d : Int} (h1 : a = c) (h2 : b = d) : Ending.returned (.tuple #[.int k1 a, .int k2 b]) = .returned (.tuple #[.int k1 c, .int k2 d]) := by rw [h1, h2]
theorem retI {k1 : IntKind} {a c : Int} (h1 : a = c) : Ending.returned (.int k1 a) = .returned (.int k1 c) := by rw [h1]
theorem retB {a c : Bool} (h1 : a = c) : Ending.returned (.bool a) = .returned (.bool c) := by rw [h1]

theorem map_take_succ (f : Int → Int) (xs : List Int) (k : Nat) (h : k < xs.length) : (xs.take (k + 1)).map f = (xs.take k).map f ++ [f (xs[k]?.getD 0)] := by
  rw [List.take_succ_eq_append_getElem h, List.map_append, List.getElem?_eq_getElem h]
  rfl
theorem map_take_len (f : Int → Int) (xs : List Int) (k : Nat) (h : k ≤ xs.length) : ((xs.take k).map f).length = k := by simp; omega

theorem Try.info_u8 : (Try.prog.info? 5).map (fun i => (i.zero, i.size, i.bytes)) = some (some (.int .u8 0), 1, 1) := by kernel_rfl

/-! ### The operations on bits of an int, on numbers that are not negative -/
theorem i64_xor_nat (a b : Nat) (ha : a < 9223372036854775808) (hb : b < 9223372036854775808) : bits .xor .i64 (a : Int) (b : Int) = ((a ^^^ b : Nat) : Int) := by
  have hx : a ^^^ b < 2 ^ 63 := Nat.xor_lt_two_pow (by omega) (by omega)
  show IntKind.i64.wrap ((BitVec.ofInt 64 (a : Int) ^^^ BitVec.ofInt 64 (b : Int)).toNat : Int) = _
  rw [BitVec.toNat_xor, ofInt_u64 a (by omega), ofInt_u64 b (by omega), IntKind.wrap_i64]
  omega
theorem i64_or_nat (a b : Nat) (ha : a < 9223372036854775808) (hb : b < 9223372036854775808) : bits .or .i64 (a : Int) (b : Int) = ((a ||| b : Nat) : Int) := by
  have hx : a ||| b < 2 ^ 63 := Nat.or_lt_two_pow (by omega) (by omega)
  show IntKind.i64.wrap ((BitVec.ofInt 64 (a : Int) ||| BitVec.ofInt 64 (b : Int)).toNat : Int) = _
  rw [BitVec.toNat_or, ofInt_u64 a (by omega), ofInt_u64 b (by omega), IntKind.wrap_i64]
  omega
theorem i64_and_nat (a b : Nat) (ha : a < 9223372036854775808) (hb : b < 9223372036854775808) : bits .and .i64 (a : Int) (b : Int) = ((a &&& b : Nat) : Int) := by
  have hx : a &&& b < 2 ^ 63 := Nat.and_lt_two_pow _ (by omega)
  show IntKind.i64.wrap ((BitVec.ofInt 64 (a : Int) &&& BitVec.ofInt 64 (b : Int)).toNat : Int) = _
  rw [BitVec.toNat_and, ofInt_u64 a (by omega), ofInt_u64 b (by omega), IntKind.wrap_i64]
  omega

/-! ### A slice that came in -/
/-- What the frame of a law's proof tells of a slice of integers that came in. -/
def IsRow (k : IntKind) (w : World) (a : Option Addr) (len cap : Nat) (zs : List Int) : Prop :=
  (a = none ∧ len = 0 ∧ cap = 0 ∧ zs = []) ∨
  ∃ x, a = some x ∧ len ≤ cap ∧ cap ≤ maxLen ∧ zs.length = cap ∧ (∀ i, i < zs.length → w.cell? (x.add i) = some (.int k (zs.getD i 0))) ∧ ∀ n ∈ zs, (Lit.int k n).wf = true

theorem IsRow.rd {k : IntKind} {w : World} {a : Option Addr} {len cap : Nat} {zs : List Int} (h : IsRow k w a len cap zs) : Rd k w a len (zs.take len) := by
  rcases h with ⟨rfl, rfl, rfl, rfl⟩ | ⟨x, rfl, hl, _, hz, hc, _⟩
  · exact Rd.nil
  · refine ⟨by rw [List.length_take]; omega, fun hn => ?_⟩
    obtain ⟨b, off, spot⟩ := x
    have hc0 := hc 0 (by omega)
    have hspot : spot = none := by simpa [Addr.add] using World.cell?_spot hc0
    subst hspot
    refine ⟨b, off, rfl, ?_, fun i hi => ?_⟩
    · rcases Nat.lt_or_ge b w.heap.size with h | h
      · exact h
      · simp [World.cell?, Addr.add, Array.getElem?_eq_none h] at hc0
    · have := hc i (by omega)
      rw [List.getElem?_take_of_lt hi]
      rw [List.getD_eq_getElem?_getD] at this
      unfold Addr.add at this
      split at this
      · subst_vars; exact this
      · exact this

theorem IsRow.wf {k : IntKind} {w : World} {a : Option Addr} {len cap : Nat} {zs : List Int} (h : IsRow k w a len cap zs) : ∀ n ∈ zs.take len, (Lit.int k n).wf = true := by
  intro n hn
  have hn := List.mem_of_mem_take hn
  rcases h with ⟨rfl, rfl, rfl, rfl⟩ | ⟨x, rfl, hl, _, hz, hc, hw⟩
  · cases hn
  · exact hw n hn
theorem IsRow.len {k : IntKind} {w : World} {a : Option Addr} {len cap : Nat} {zs : List Int} (h : IsRow k w a len cap zs) : len ≤ maxLen ∧ (zs.take len).length = len := by
  rcases h with ⟨rfl, rfl, rfl, rfl⟩ | ⟨x, rfl, hl, hm, hz, hc, hw⟩
  · simp
  · rw [List.length_take]; omega

theorem IsRow.nilcap {k : IntKind} {w : World} {a : Option Addr} {len cap : Nat} {zs : List Int} (h : IsRow k w a len cap zs) : a = none → cap = 0 := by
  rcases h with ⟨rfl, rfl, rfl, rfl⟩ | ⟨x, rfl, _⟩
  · intro _; rfl
  · intro e; cases e

/-- Every number of the list lies from lo to hi (0 does, too). -/
def In (lo hi : Int) (xs : List Int) : Prop := ∀ x ∈ xs, lo ≤ x ∧ x ≤ hi
theorem In.at_ {lo hi : Int} {xs : List Int} (h : In lo hi xs) (h0 : lo ≤ 0) (h1 : 0 ≤ hi) (k : Nat) : lo ≤ xs[k]?.getD 0 ∧ xs[k]?.getD 0 ≤ hi := by
  rcases hk : xs[k]? with _ | x
  · exact ⟨h0, h1⟩
  · exact h x (List.mem_of_getElem? hk)
theorem In.of_wf_u8 {xs : List Int} (h : ∀ n ∈ xs, (Lit.int .u8 n).wf = true) : In 0 255 xs := fun x hx => by
  have := h x hx
  simp only [Lit.wf, IntKind.min, IntKind.max, IntKind.signed, IntKind.bits, Bool.and_eq_true] at this
  simp at this
  omega
theorem In.of_wf_i64 {xs : List Int} (h : ∀ n ∈ xs, (Lit.int .i64 n).wf = true) : In (-9223372036854775808) 9223372036854775807 xs := fun x hx => by
  have := h x hx
  simp only [Lit.wf, IntKind.min, IntKind.max, IntKind.signed, IntKind.bits, Bool.and_eq_true] at this
  simp at this
  omega
theorem wf_u16_bd {n : Int} (h : (Lit.int .u16 n).wf = true) : 0 ≤ n ∧ n ≤ 65535 := by
  simp only [Lit.wf, IntKind.min, IntKind.max, IntKind.signed, IntKind.bits, Bool.and_eq_true] at h
  simp at h
  omega
theorem wf_i64_bd {n : Int} (h : (Lit.int .i64 n).wf = true) : -9223372036854775808 ≤ n ∧ n ≤ 9223372036854775807 := by
  simp only [Lit.wf, IntKind.min, IntKind.max, IntKind.signed, IntKind.bits, Bool.and_eq_true] at h
  simp at h
  omega

/-! ### Bytes as a string -/
def bstr (xs : List Int) : ByteArray := xs.foldl (fun r n => r.push (UInt8.ofNat n.toNat)) ByteArray.empty

theorem bstr_fold (xs : List Int) (r : ByteArray) : (xs.foldl (fun r n => r.push (UInt8.ofNat n.toNat)) r).data.toList = r.data.toList ++ xs.map fun n => UInt8.ofNat n.toNat := by
  induction xs generalizing r with
  | nil => simp
  | cons x t ih => rw [List.foldl_cons, ih]; simp [ByteArray.push]
theorem bstr_list (xs : List Int) : (bstr xs).data.toList = xs.map fun n => UInt8.ofNat n.toNat := by
  unfold bstr
  rw [bstr_fold]
  rfl
theorem bstr_inj {xs ys : List Int} (hx : In 0 255 xs) (hy : In 0 255 ys) (h : bstr xs = bstr ys) : xs = ys := by
  have e := congrArg (fun s : ByteArray => s.data.toList.map fun c : UInt8 => (c.toNat : Int)) h
  simp only [bstr_list, List.map_map] at e
  have g : ∀ zs : List Int, In 0 255 zs → zs.map ((fun c : UInt8 => (c.toNat : Int)) ∘ fun n : Int => UInt8.ofNat n.toNat) = zs := by
    intro zs hz
    conv => rhs; rw [← List.map_id zs]
    refine List.map_congr_left fun x hx => ?_
    have := hz x hx
    simp
    omega
  rwa [g xs hx, g ys hy] at e

theorem bstr_beq {xs ys : List Int} (hx : In 0 255 xs) (hy : In 0 255 ys) : ((bstr xs).toList == (bstr ys).toList) = decide (xs = ys) := by
  by_cases h : xs = ys
  · subst h; simp
  · rw [decide_eq_false h, beq_eq_false_iff_ne]
    intro e
    rw [ByteArray.toList_eq, ByteArray.toList_eq] at e
    exact h (bstr_inj hx hy (by
      have e2 := congrArg List.toArray e
      simp only [Array.toArray_toList] at e2
      exact congrArg ByteArray.mk e2))

theorem run_bytes_str {P : Program} {w : World} {src dst e : TypeId} {A : Option Addr} {n : Nat} {xs : List Int} (hs : P.underlying src = some (.slice e)) (he : P.underlying e = some (.int .u8)) (hd : P.underlying dst = some .string)
    (hx : Rd .u8 w A n xs) (c : Nat) : (convert src dst (.slice A n c)).run P w = .ok (.string (bstr xs)) w := by
  rw [run_convert_bytes_string w src dst e A n c hs he hd]
  rcases A with _ | a
  · have hn : n = 0 := by
      rcases Nat.eq_zero_or_pos n with h | h
      · exact h
      · obtain ⟨b, off, e, _⟩ := hx.2 h
        cases e
    subst hn
    obtain rfl : xs = [] := List.eq_nil_of_length_eq_zero hx.1
    rfl
  · refine run_bytesToString w a n c xs ?_
    have := run_loadCells_list (P := P) (w := w) a (xs.map (Value.int .u8)) (fun j v hj => by
      rw [List.getElem?_map] at hj
      have hlt : j < n := by
        rcases Nat.lt_or_ge j xs.length with h | h
        · rw [hx.1] at h; exact h
        · rw [List.getElem?_eq_none h] at hj; cases hj
      obtain ⟨b, off, e, _, hc⟩ := hx.2 (by omega)
      obtain rfl : a = ⟨b, off, none⟩ := by injection e
      have := hc j hlt
      rw [show (⟨b, off, none⟩ : Addr).add j = ⟨b, off + j, none⟩ by unfold Addr.add; split <;> simp_all]
      rw [this]
      rcases hk : xs[j]? with _ | y
      · rw [hk] at hj; cases hj
      · rw [hk] at hj; simpa using hj)
    simpa [hx.1] using this

theorem Own.forms {B : Nat} {ty : TypeId} {k : IntKind} {w : World} {v : Value} {xs : List Int} {n : Nat} (h : Own B ty k w v xs) (hn : xs.length = n) :
    ∃ A c, v = .slice A n c ∧ Rd k w A n xs ∧ n ≤ c ∧ (A = none → c = 0) := by
  subst hn
  obtain ⟨A, c, hv, hrd⟩ := h.form
  refine ⟨A, c, hv, hrd, ?_, ?_⟩ <;> rcases h.2 with ⟨e, hn⟩ | ⟨g, cap, cur, e, _, _, hnc, _⟩ <;> rw [hv] at e
  · injection e; omega
  · injection e; omega
  · injection e; intro _; assumption
  · injection e with e1; intro e2; rw [e2] at e1; cases e1

theorem RetOwn.opens {W : World} {ty : TypeId} {k : IntKind} {xs : List Int} {e : Ending} {w' : World} {n : Nat} (h : RetOwn W ty k xs e w') (hn : xs.length = n) :
    ∃ A c, e = .returned (.slice A n c) ∧ Own W.heap.size ty k w' (.slice A n c) xs ∧ Rd k w' A n xs ∧ (A = none → c = 0) ∧ Below W.heap.size W w' := by
  obtain ⟨v, he, hown, hb⟩ := h
  obtain ⟨A, c, rfl, hrd, _, hnil⟩ := hown.forms hn
  exact ⟨A, c, he, hown, hrd, hnil, hb⟩

theorem grownBy_of_below {w w' : World} {row : Option Nat} (h : Below w.heap.size w w') : w.grownBy w' row := ⟨h.os, h.tape, h.output, h.size, fun j hj _ => h.block j hj⟩
theorem Rd.cellAdd {k : IntKind} {w : World} {a : Addr} {n : Nat} {xs : List Int} (h : Rd k w (some a) n xs) (j : Nat) (hj : j < n) : w.cell? (a.add j) = some (.int k (xs[j]?.getD 0)) := by
  obtain ⟨b, off, e, _, hc⟩ := h.2 (by omega)
  obtain rfl : a = ⟨b, off, none⟩ := by injection e
  rw [show (⟨b, off, none⟩ : Addr).add j = ⟨b, off + j, none⟩ by unfold Addr.add; split <;> simp_all]
  exact hc j hj

/-- The append of a readable slice to a row of the call's own. -/
theorem wpList_join {P : Program} (w : World) {ops : Array Oper} {rest : List Oper} {o : Oper} {a : Act} {Q : Exit → Act → World → Prop} (hgd : o.guard = none) (s x : Operand) (t : TypeId)
    (ho : o.op = .call { callee := .builtin .append, args := #[s, x], argTypes := #[t, t] })
    (e : TypeId) (k : IntKind) (bytes : Nat) (ht : P.underlying t = some (.slice e)) (hinfo : (P.info? e).map (fun i => (i.zero, i.size, i.bytes)) = some (some (.int k 0), 1, bytes)) (hby : bytes ≤ 8)
    (B : Nat) (W : World) (v : Value) (xs ys : List Int) (A : Option Addr) (m c : Nat) (hown : Own B e k w v xs) (hrd : Rd k w A m ys) (hnil : A = none → c = 0) (hbel : Below B W w) (hB : B ≤ w.heap.size) (hlen : xs.length + m < 17592186044416) (hs : a.eval s = v)
    (hx : a.eval x = .slice A m c)
    (h : ∀ v' w', Own B e k w' v' (xs ++ ys) → Below B W w' → w.heap.size ≤ w'.heap.size → w.grownBy w' v.ownBlock → wpList P ops Q rest (a.put o.dst v') w') : wpList P ops Q (o :: rest) a w := by
  obtain ⟨i0, hi, hz, hsize, hb⟩ := info_parts hinfo
  rcases A with _ | ad
  · have hm : m = 0 := by
      rcases Nat.eq_zero_or_pos m with h | h
      · exact h
      · obtain ⟨b, off, e, _⟩ := hrd.2 h
        cases e
    subst hm
    obtain rfl : ys = [] := List.eq_nil_of_length_eq_zero hrd.1
    obtain rfl := hnil rfl
    refine wpList_append_own_none hgd s x t ho B e i0 1 ht hi v xs.length (xs.map (Value.int k)) hs hown hx ?_
    exact h v w (by simpa using hown) hbel (Nat.le_refl _) (World.grownBy.refl w _)
  · refine wpList_append_own w hgd s x t ho B e i0 (.int k 0) 1 bytes ht hi hz hsize hb rfl (by omega) v xs.length (xs.map (Value.int k)) hs hown ad m c (ys.map (Value.int k)) hx (by simp [hrd.1]) ?_
      (fun u hu => by obtain ⟨y, _, rfl⟩ := List.mem_map.1 hu; rfl) (by unfold maxLen; omega) ?_ hB ?_
    · intro j u hj
      rw [List.getElem?_map] at hj
      have hlt : j < m := by
        rcases Nat.lt_or_ge j ys.length with h | h
        · rw [hrd.1] at h; exact h
        · rw [List.getElem?_eq_none h] at hj; cases hj
      rw [hrd.cellAdd j hlt]
      rcases hk : ys[j]? with _ | y
      · rw [hk] at hj; cases hj
      · rw [hk] at hj; simpa using hj
    · have : (xs.length + m) * bytes ≤ (xs.length + m) * 8 := Nat.mul_le_mul_left _ hby
      omega
    · intro v' w' hown' hg _
      refine h v' w' ?_ (hbel.grown hg hB (fun j hj => (hown.lt j hj).1)) hg.size hg
      unfold Own
      rw [List.length_append, List.map_append, hrd.1]
      exact hown'

theorem u16_bit (a : Int) (h0 : 0 ≤ a) (h1 : a ≤ 65535) (j : Nat) : bits .and .u16 (a / 2 ^ j) 1 % 256 = a / 2 ^ j % 2 := by
  obtain ⟨n, rfl⟩ := Int.eq_ofNat_of_zero_le h0
  have hc : (n : Int) / (2 : Int) ^ j = ((n / 2 ^ j : Nat) : Int) := by push_cast; rfl
  have hle : n / 2 ^ j ≤ n := Nat.div_le_self _ _
  rw [hc]
  have := u16_and_nat (n / 2 ^ j) 1 (by omega) (by omega)
  rw [show ((1 : Nat) : Int) = 1 from rfl] at this
  rw [this, nat_mask1]
  omega

/-! ### A row of a fixed length: make, load, store -/
/-- 'make([]T, n)': n noughts, a row of the call's own. -/
theorem wpList_makeI {P : Program} (w : World) {ops : Array Oper} {rest : List Oper} {o : Oper} {a : Act} {Q : Exit → Act → World → Prop} (hg : o.guard = none) (l c : Operand) (t : TypeId) (hop : o.op = Op.makeSlice t l c)
    (e : TypeId) (k : IntKind) (bytes : Nat) (ht : P.underlying t = some (.slice e)) (hinfo : (P.info? e).map (fun i => (i.zero, i.size, i.bytes)) = some (some (.int k 0), 1, bytes)) (hby : bytes ≤ 8)
    (B : Nat) (W : World) (n : Nat) (hbel : Below B W w) (hB : B ≤ w.heap.size) (hn : n < 17592186044416) (kl kc : IntKind) (hl : a.eval l = .int kl n) (hc : a.eval c = .int kc n)
    (h : ∀ w', Own B e k w' (.slice (some ⟨w.heap.size, 0, none⟩) n n) (List.replicate n 0) → Below B W w' → w.heap.size < w'.heap.size → w.grownBy w' none → wpList P ops Q rest (a.put o.dst (.slice (some ⟨w.heap.size, 0, none⟩) n n)) w') : wpList P ops Q (o :: rest) a w := by
  obtain ⟨i0, hi, hz, hsize, hb⟩ := info_parts hinfo
  refine wpList_make_full w hg l c t hop B e i0 (.int k 0) 1 ht hi hz hsize kl kc n n n hl hc rfl rfl ?_ (by unfold maxLen; omega) hB ?_
  · rw [hb]
    have : bytes * n ≤ 8 * n := Nat.mul_le_mul_right _ hby
    omega
  · intro w' hown hgr
    refine h w' ?_ (hbel.grown hgr hB (fun j hj => by cases hj)) ?_ hgr
    · unfold Own
      rw [List.length_replicate, List.map_replicate]
      have e1 : (madeCells (Value.int k 0).cells (n * 1)).toList = List.replicate n (.int k 0) := by rw [Nat.mul_one]; exact toList_madeCells_one _ n
      rw [e1] at hown
      exact hown
    · rcases hown.2 with ⟨h', _⟩ | ⟨g, cap, cur, hv, _, hh, _⟩
      · cases h'
      · injection hv with h1
        injection h1 with h1
        injection h1 with h1
        rw [h1]
        exact lt_of_block hh

section
variable {B : Nat} {ty : TypeId} {k : IntKind} {w : World} {g n c : Nat} {xs : List Int}
theorem Own.cellAt (h : Own B ty k w (.slice (some ⟨g, 0, none⟩) n c) xs) (hn : xs.length = n) (j : Nat) (hj : j < n) : w.cell? ⟨g, j, none⟩ = some (.int k (xs[j]?.getD 0)) := by
  subst hn
  rw [World.ownsRow.cellAt (xs := xs.map (Value.int k)) h j (by omega)]
  simp [hj]
theorem Own.frozenAt (h : Own B ty k w (.slice (some ⟨g, 0, none⟩) n c) xs) (hn : xs.length = n) (j : Nat) : w.frozen? ⟨g, j, none⟩ = false := by
  subst hn
  exact World.ownsRow.frozenAt (xs := xs.map (Value.int k)) h j
theorem Own.set_ (h : Own B ty k w (.slice (some ⟨g, 0, none⟩) n c) xs) (hn : xs.length = n) (j : Nat) (y : Int) :
    Own B ty k (w.setCell ⟨g, j, none⟩ (.int k y)) (.slice (some ⟨g, 0, none⟩) n c) (xs.set j y) ∧ w.grownBy (w.setCell ⟨g, j, none⟩ (.int k y)) (some g) := by
  subst hn
  obtain ⟨h1, h2⟩ := World.ownsRow.stored (xs := xs.map (Value.int k)) h j (.int k y)
  refine ⟨?_, h2⟩
  unfold Own
  rw [List.length_set, List.map_set]
  exact h1
theorem Own.drew (h : Own B ty k w (.slice (some ⟨g, 0, none⟩) n c) xs) : Own B ty k w.drew (.slice (some ⟨g, 0, none⟩) n c) xs := h
theorem Own.blockGe (h : Own B ty k w (.slice (some ⟨g, 0, none⟩) n c) xs) : B ≤ g ∧ g < w.heap.size := h.lt g rfl
end
theorem Rd.cellAt {k : IntKind} {w : World} {b off n : Nat} {xs : List Int} (h : Rd k w (some ⟨b, off, none⟩) n xs) (j : Nat) (hj : j < n) : w.cell? ⟨b, off + j, none⟩ = some (.int k (xs[j]?.getD 0)) := by
  obtain ⟨b', off', e, _, hc⟩ := h.2 (by omega)
  injection e with e
  injection e with e1 e2
  subst e1 e2
  exact hc j hj
theorem Rd.addr {k : IntKind} {w : World} {A : Option Addr} {n : Nat} {xs : List Int} (h : Rd k w A n xs) (hn : 0 < n) : ∃ b off, A = some ⟨b, off, none⟩ ∧ b < w.heap.size := by
  obtain ⟨b, off, e, hb, _⟩ := h.2 hn
  exact ⟨b, off, e, hb⟩

theorem mask_i64 (n b : Nat) (hb : b ≤ 62) (hn : n < 9223372036854775808) : bits .and .i64 (n : Int) (wrap64 (wrap64 ((2 : Int) ^ b) - 1)) = ((n % 2 ^ b : Nat) : Int) := by
  have h1 : 2 ^ b ≤ 2 ^ 62 := Nat.pow_le_pow_right (by omega) hb
  have h2 : 0 < 2 ^ b := Nat.pow_pos (by omega)
  have e : wrap64 (wrap64 ((2 : Int) ^ b) - 1) = ((2 ^ b - 1 : Nat) : Int) := by
    rw [show (2 : Int) ^ b = ((2 ^ b : Nat) : Int) by push_cast; rfl]
    generalize 2 ^ b = q at h1 h2
    unfold wrap64
    omega
  rw [e, i64_and_nat n (2 ^ b - 1) hn (by omega), Nat.and_two_pow_sub_one_eq_mod]

/-! ### A cut of a slice -/
theorem Rd.cut {k : IntKind} {w : World} {A : Option Addr} {n : Nat} {xs : List Int} (h : Rd k w A n xs) (lo m : Nat) (hm : lo + m ≤ n) : Rd k w (A.map (·.add lo)) m ((xs.drop lo).take m) := by
  refine ⟨by rw [List.length_take, List.length_drop, h.1]; omega, fun hpos => ?_⟩
  obtain ⟨b, off, rfl, hb, hc⟩ := h.2 (by omega)
  refine ⟨b, off + lo, ?_, hb, fun i hi => ?_⟩
  · simp only [Option.map_some]
    unfold Addr.add
    split <;> simp_all
  · rw [List.getElem?_take_of_lt hi, List.getElem?_drop, Nat.add_assoc]
    exact hc (lo + i) (by omega)
theorem Rd.take {k : IntKind} {w : World} {A : Option Addr} {n : Nat} {xs : List Int} (h : Rd k w A n xs) (m : Nat) (hm : m ≤ n) : Rd k w A m (xs.take m) := by
  refine ⟨by rw [List.length_take, h.1]; omega, fun hpos => ?_⟩
  obtain ⟨b, off, rfl, hb, hc⟩ := h.2 (by omega)
  exact ⟨b, off, rfl, hb, fun i hi => by rw [List.getElem?_take_of_lt hi]; exact hc i (by omega)⟩
theorem Rd.drewN {k : IntKind} {w : World} {A : Option Addr} {n : Nat} {xs : List Int} (h : Rd k w A n xs) (q : Nat) : Rd k (w.drewN q) A n xs := h
/-- The cut in the walk's own form. -/
theorem Rd.sliced {k : IntKind} {w : World} {A : Option Addr} {n c : Nat} {xs : List Int} (h : Rd k w A n xs) (lo hi : Nat) (h1 : lo ≤ hi) (h2 : hi ≤ n) (h3 : n ≤ c) : Rd k w (if c = lo then A else A.map (·.add lo)) (hi - lo) ((xs.drop lo).take (hi - lo)) := by
  split
  · obtain rfl : lo = hi := by omega
    rw [Nat.sub_self, List.take_zero]
    exact Rd.nil
  · exact h.cut lo (hi - lo) (by omega)
theorem IsRow.capGe {k : IntKind} {w : World} {a : Option Addr} {len cap : Nat} {zs : List Int} (h : IsRow k w a len cap zs) : len ≤ cap := by
  rcases h with ⟨rfl, rfl, rfl, rfl⟩ | ⟨x, rfl, hl, _⟩
  · exact Nat.le_refl _
  · exact hl

theorem Own.capGe {B : Nat} {ty : TypeId} {k : IntKind} {w : World} {A : Option Addr} {n c : Nat} {xs : List Int} (h : Own B ty k w (.slice A n c) xs) : n ≤ c := by
  rcases h.2 with ⟨e, hn⟩ | ⟨g, cap, cur, e, _, _, hnc, _⟩
  · injection e; omega
  · injection e; omega
end Go.Proofs.Ytjfbgakebldjcaa
