import Derived.WalkKit
import Derived.WalkSpells
import Derived.WalkLawsBesides
import Derived.Laws.AppendOwnNone
import Derived.Deep.Quiet
namespace Go.Pv
set_option linter.unusedVariables false
open Go Go.RowKit

mutual
/-- What is known of a value: data, or a place in memory of the call's own. -/
inductive PV where
  | any
  | bool (b : Bool)
  | int (k : IntKind) (n : Int)
  | str (s : ByteArray)
  | nilf
  | nil (cs : Cells)
  | ro (cs : Cells)
  | rop (cs : Cells) (i j : Nat)
  | sl (id off n tot : Nat)
  | ptr (id i j tot : Nat)
  | asl (id j n : Nat)
  | yld (id : Nat)
  | fn (f : Nat) (caps : List PV)
  | agg (cs : List PV)
  | tup (vs : List PV)
  | opt (b : Bool) (v : PV)
/-- What a row of memory holds: numbers of one kind; or elements of w cells each. -/
inductive Cells where
  | ints (k : IntKind) (xs : List Int)
  | rows (w : Nat) (rs : List (List PV))
  | lp (L : Loop) (ps : List PV)
end

instance : Inhabited PV := ⟨.any⟩
def Cells.len : Cells → Nat
  | .ints _ xs => xs.length
  | .rows _ rs => rs.length
  | .lp _ _ => 1
def Cells.w : Cells → Nat
  | .ints _ _ => 1
  | .rows w _ => w
  | .lp _ _ => 0
def Cells.get : Cells → Nat → Nat → PV
  | .ints k xs, i, _ => .int k (xs.getD i 0)
  | .rows _ rs, i, j => (rs.getD i []).getD j .any
  | .lp _ _, _, _ => .any
def Cells.sub : Cells → Nat → Nat → Cells
  | .ints k xs, o, n => .ints k ((xs.drop o).take n)
  | .rows w rs, o, n => .rows w ((rs.drop o).take n)
  | .lp L ps, _, n => if n = 1 then .lp L ps else .rows 0 (List.replicate n [])

/-- A block of the call's own: a row that may grow, or a box of a fixed size. -/
structure Blk where
  cs : Cells
  box : Bool
  e : TypeId

def blkOf : Value → Option Nat
  | .slice (some a) _ _ => some a.block
  | .pointer (some a) => some a.block
  | _ => none

structure Cx where
  w : World
  loc : Nat → Value
  H : Nat → Option Blk
  A : Nat → Prop
  ow : Nat → Prop

def SlOk (V : Value) (w off n tot : Nat) (v : Value) : Prop :=
  off + n ≤ tot ∧ ((off = 0 ∧ n = tot → v = V ∨ (V = .slice none 0 0 ∧ ∃ a, v = .slice a 0 0)) ∧ (¬ (off = 0 ∧ n = tot) → n = 0 ∨ ∃ g cp, blkOf V = some g ∧ v = .slice (some ⟨g, off * w, none⟩) n cp))

/-- What is known of a value holds in this memory. In pure mode ('true') no place of the call's own stands in it. -/
inductive Rep (c : Cx) : Bool → PV → Value → Prop where
  | any (b) (v) : Rep c b .any v
  | bool (b) (t) : Rep c b (.bool t) (.bool t)
  | int (b) (k n) : Rep c b (.int k n) (.int k n)
  | str (b) (s) : Rep c b (.str s) (.string s)
  | nilf (b) : Rep c b .nilf .nilFunc
  | nil (b) (cs : Cells) (a) : cs.len = 0 → Rep c b (.nil cs) (.slice a 0 0)
  | ro0 (b) (cs : Cells) (a cp) : cs.len = 0 → Rep c b (.ro cs) (.slice a 0 cp)
  | ro (p) (cs : Cells) (b off cp : Nat) (f : Nat → Nat → Value) : 0 < cs.len → cs.len ≤ cp → ¬ c.ow b → b < c.w.heap.size →
      (∀ i j, i < cs.len → j < cs.w → c.w.cell? ⟨b, off + (i * cs.w + j), none⟩ = some (f i j) ∧ (f i j).oneCell' = true) →
      (∀ i j, i < cs.len → j < cs.w → Rep c true (cs.get i j) (f i j)) → Rep c p (.ro cs) (.slice (some ⟨b, off, none⟩) cs.len cp)
  | rop (p) (cs : Cells) (i0 j0 b off : Nat) (f : Nat → Nat → Value) : ¬ c.ow b → b < c.w.heap.size →
      (∀ i j, i < cs.len → j < cs.w → c.w.cell? ⟨b, off + (i * cs.w + j), none⟩ = some (f i j) ∧ (f i j).oneCell' = true) →
      (∀ i j, i < cs.len → j < cs.w → Rep c true (cs.get i j) (f i j)) → Rep c p (.rop cs i0 j0) (.pointer (some ⟨b, off + (i0 * cs.w + j0), none⟩))
  | sl (id off n tot v) : c.A id → (∃ a cp, v = .slice a n cp ∧ n ≤ cp) → (∀ blk, c.H id = some blk → blk.box = false ∧ tot ≤ blk.cs.len ∧ (blk.cs.len = tot → SlOk (c.loc id) blk.cs.w off n tot v)) → Rep c false (.sl id off n tot) v
  | ptr (id i j tot v) : c.A id → (∃ x, v = .pointer x) → (∀ blk, c.H id = some blk → tot ≤ blk.cs.len ∧ (blk.cs.len = tot → ∃ g, blkOf (c.loc id) = some g ∧ v = .pointer (some ⟨g, i * blk.cs.w + j, none⟩))) → Rep c false (.ptr id i j tot) v
  | asl (id j n v) : c.A id → (∃ a cp, v = .slice a n cp ∧ n ≤ cp) → (∀ blk, c.H id = some blk → blk.box = true ∧ 1 ≤ blk.cs.len ∧ (blk.cs.len = 1 → ∃ g cp, blkOf (c.loc id) = some g ∧ v = .slice (some ⟨g, j, none⟩) n cp)) → Rep c false (.asl id j n) v
  | yld (id v) : c.A id → (∃ l, v = .func (.yield l) #[] #[]) → (∀ blk, c.H id = some blk → 1 ≤ blk.cs.len ∧ (blk.cs.len = 1 → ∃ g, blkOf (c.loc id) = some g ∧ v = .func (.yield g) #[] #[])) → Rep c false (.yld id) v
  | fn (p) (f caps vs) : List.length caps = Array.size vs → (∀ (i : Nat) q v, caps[i]? = some q → vs[i]? = some v → Rep c p q v) → Rep c p (.fn f caps) (.func (.func f) #[] vs)
  | agg (p) (cs vs) : List.length cs = Array.size vs → (∀ (i : Nat) q v, cs[i]? = some q → vs[i]? = some v → Rep c p q v) → Rep c p (.agg cs) (.agg vs)
  | tup (p) (cs vs) : List.length cs = Array.size vs → (∀ (i : Nat) q v, cs[i]? = some q → vs[i]? = some v → Rep c p q v) → Rep c p (.tup cs) (.tuple vs)
  | opt (p) (b q v) : (b = true → Rep c p q v) → (b = false → v = undef) → Rep c p (.opt b q) v

structure Cx.Le (c c' : Cx) : Prop where
  stable : ∀ b, ¬ c.ow b → b < c.w.heap.size → ¬ c'.ow b ∧ b < c'.w.heap.size ∧ ∀ o, c'.w.cell? ⟨b, o, none⟩ = c.w.cell? ⟨b, o, none⟩
  all : ∀ id, c.A id → c'.A id
  ids : ∀ id blk', c.A id → c'.H id = some blk' → ∃ blk, c.H id = some blk ∧ blk.cs.len ≤ blk'.cs.len ∧ blk'.cs.w = blk.cs.w ∧ blk'.box = blk.box ∧ (blk'.cs.len = blk.cs.len → c'.loc id = c.loc id)

theorem Cx.Le.refl (c : Cx) : c.Le c := ⟨fun b h h' => ⟨h, h', fun _ => rfl⟩, fun _ h => h, fun id blk _ h => ⟨blk, h, Nat.le_refl _, rfl, rfl, fun _ => rfl⟩⟩
theorem Cx.Le.trans {a b c : Cx} (h : a.Le b) (k : b.Le c) : a.Le c := by
  refine ⟨fun x h1 h2 => ?_, fun id h1 => k.all id (h.all id h1), fun id blk' ha hb => ?_⟩
  · obtain ⟨h3, h4, h5⟩ := h.stable x h1 h2
    obtain ⟨h6, h7, h8⟩ := k.stable x h3 h4
    exact ⟨h6, h7, fun o => (h8 o).trans (h5 o)⟩
  · obtain ⟨b1, e1, l1, w1, x1, f1⟩ := k.ids id blk' (h.all id ha) hb
    obtain ⟨b0, e0, l0, w0, x0, f0⟩ := h.ids id b1 ha e1
    exact ⟨b0, e0, by omega, w1.trans w0, x1.trans x0, fun e => (f1 (by omega)).trans (f0 (by omega))⟩

theorem Rep.mono {c c' : Cx} (h : c.Le c') {q : Bool} {p : PV} {v : Value} (r : Rep c q p v) : Rep c' q p v := by
  induction r with
  | any q v => exact .any q v
  | bool q b => exact .bool q b
  | int q k n => exact .int q k n
  | str q s => exact .str q s
  | nilf q => exact .nilf q
  | nil q cs a e => exact .nil q cs a e
  | ro0 q cs a cp e => exact .ro0 q cs a cp e
  | ro q cs b off cp f h0 hc hb hlt hcell _ ih =>
    obtain ⟨h1, h2, h3⟩ := h.stable b hb hlt
    exact .ro q cs b off cp f h0 hc h1 h2 (fun i j hi hj => ⟨(h3 _).trans (hcell i j hi hj).1, (hcell i j hi hj).2⟩) ih
  | rop q cs i0 j0 b off f hb hlt hcell _ ih =>
    obtain ⟨h1, h2, h3⟩ := h.stable b hb hlt
    exact .rop q cs i0 j0 b off f h1 h2 (fun i j hi hj => ⟨(h3 _).trans (hcell i j hi hj).1, (hcell i j hi hj).2⟩) ih
  | sl id off n tot v ha hs hk =>
    refine .sl id off n tot v (h.all id ha) hs fun blk' hb => ?_
    obtain ⟨blk, e, hl, hw, hx, hi⟩ := h.ids id blk' ha hb
    obtain ⟨h0, h1, h2⟩ := hk blk e
    refine ⟨hx.trans h0, by omega, fun e' => ?_⟩
    rw [hi (by omega), hw]
    exact h2 (by omega)
  | ptr id i j tot v ha hs hk =>
    refine .ptr id i j tot v (h.all id ha) hs fun blk' hb => ?_
    obtain ⟨blk, e, hl, hw, hx, hi⟩ := h.ids id blk' ha hb
    obtain ⟨h1, h2⟩ := hk blk e
    refine ⟨by omega, fun e' => ?_⟩
    rw [hi (by omega), hw]
    exact h2 (by omega)
  | asl id j n v ha hs hk =>
    refine .asl id j n v (h.all id ha) hs fun blk' hb => ?_
    obtain ⟨blk, e, hl, hw, hx, hi⟩ := h.ids id blk' ha hb
    obtain ⟨h0, h1, h2⟩ := hk blk e
    refine ⟨hx.trans h0, by omega, fun e' => ?_⟩
    rw [hi (by omega)]
    exact h2 (by omega)
  | yld id v ha hs hk =>
    refine .yld id v (h.all id ha) hs fun blk' hb => ?_
    obtain ⟨blk, e, hl, hw, hx, hi⟩ := h.ids id blk' ha hb
    obtain ⟨h1, h2⟩ := hk blk e
    refine ⟨by omega, fun e' => ?_⟩
    rw [hi (by omega)]
    exact h2 (by omega)
  | fn q f caps vs hl _ ih => exact .fn q f caps vs hl ih
  | agg q cs vs hl _ ih => exact .agg q cs vs hl ih
  | tup q cs vs hl _ ih => exact .tup q cs vs hl ih
  | opt q b p v _ h0 ih => exact .opt q b p v ih h0

/-- From one memory to another in which no more is the call's own, and of the blocks of which nothing has turned: pure values alone. -/
theorem Rep.bare {c c' : Cx} (h : ∀ b, ¬ c.ow b → b < c.w.heap.size → ¬ c'.ow b ∧ b < c'.w.heap.size ∧ ∀ o, c'.w.cell? ⟨b, o, none⟩ = c.w.cell? ⟨b, o, none⟩) {q : Bool} (hq : q = true) {p : PV} {v : Value} (r : Rep c q p v) : Rep c' q p v := by
  induction r with
  | any q v => exact .any q v
  | bool q b => exact .bool q b
  | int q k n => exact .int q k n
  | str q s => exact .str q s
  | nilf q => exact .nilf q
  | nil q cs a e => exact .nil q cs a e
  | ro0 q cs a cp e => exact .ro0 q cs a cp e
  | ro q cs b off cp f h0 hc hb hlt hcell _ ih =>
    obtain ⟨h1, h2, h3⟩ := h b hb hlt
    exact .ro q cs b off cp f h0 hc h1 h2 (fun i j hi hj => ⟨(h3 _).trans (hcell i j hi hj).1, (hcell i j hi hj).2⟩) (fun i j hi hj => ih i j hi hj rfl)
  | rop q cs i0 j0 b off f hb hlt hcell _ ih =>
    obtain ⟨h1, h2, h3⟩ := h b hb hlt
    exact .rop q cs i0 j0 b off f h1 h2 (fun i j hi hj => ⟨(h3 _).trans (hcell i j hi hj).1, (hcell i j hi hj).2⟩) (fun i j hi hj => ih i j hi hj rfl)
  | sl id off n tot v ha hs hk => cases hq
  | ptr id i j tot v ha hs hk => cases hq
  | asl id j n v ha hs hk => cases hq
  | yld id v ha hs hk => cases hq
  | fn q f caps vs hl _ ih => exact .fn q f caps vs hl (fun i p v h1 h2 => ih i p v h1 h2 hq)
  | agg q cs vs hl _ ih => exact .agg q cs vs hl (fun i p v h1 h2 => ih i p v h1 h2 hq)
  | tup q cs vs hl _ ih => exact .tup q cs vs hl (fun i p v h1 h2 => ih i p v h1 h2 hq)
  | opt q b p v _ h0 ih => exact .opt q b p v (fun h => ih h hq) h0

theorem Rep.loose {c : Cx} {q : Bool} {p : PV} {v : Value} (r : Rep c q p v) : Rep c false p v := by
  induction r with
  | any q v => exact .any _ v
  | bool q b => exact .bool _ b
  | int q k n => exact .int _ k n
  | str q s => exact .str _ s
  | nilf q => exact .nilf _
  | nil q cs a e => exact .nil _ cs a e
  | ro0 q cs a cp e => exact .ro0 _ cs a cp e
  | ro q cs b off cp f h0 hc hb hlt hcell hr ih => exact .ro _ cs b off cp f h0 hc hb hlt hcell hr
  | rop q cs i0 j0 b off f hb hlt hcell hr ih => exact .rop _ cs i0 j0 b off f hb hlt hcell hr
  | sl id off n tot v ha hs hk => exact .sl id off n tot v ha hs hk
  | ptr id i j tot v ha hs hk => exact .ptr id i j tot v ha hs hk
  | asl id j n v ha hs hk => exact .asl id j n v ha hs hk
  | yld id v ha hs hk => exact .yld id v ha hs hk
  | fn q f caps vs hl _ ih => exact .fn _ f caps vs hl ih
  | agg q cs vs hl _ ih => exact .agg _ cs vs hl ih
  | tup q cs vs hl _ ih => exact .tup _ cs vs hl ih
  | opt q b p v _ h0 ih => exact .opt _ b p v ih h0

/-! ### The heap -/
def Reps (c : Cx) (q : Bool) (cs : Cells) (vs : List Value) : Prop := vs.length = cs.len * cs.w ∧ ∀ i j, i < cs.len → j < cs.w → ∃ v, vs[i * cs.w + j]? = some v ∧ Rep c q (cs.get i j) v ∧ v.oneCell' = true
/-- What lies in a box: cells; or a loop's record. -/
def Hb (c : Cx) (g : Nat) (T : TypeId) (vs : List Value) : Cells → Prop
  | .lp L ps => c.w.heap[g]? = some (.loop L) ∧ ∀ t, Rep c false (ps.getD t .any) (L.tmps.getD t undef)
  | _ => c.w.heap[g]? = some (.cells (List.toArray vs) T (0, 0))
def BlkOk (c : Cx) (B : Nat) (V : Value) (blk : Blk) : Prop :=
  if blk.box then ∃ g vs T, V = .pointer (some ⟨g, 0, none⟩) ∧ B ≤ g ∧ Hb c g T vs blk.cs ∧ Reps c false blk.cs vs
  else ∃ vs, c.w.ownsRow B blk.e blk.cs.w V blk.cs.len vs ∧ Reps c true blk.cs vs
structure HeapOk (c : Cx) (B : Nat) : Prop where
  ok : ∀ id blk, c.H id = some blk → c.A id ∧ BlkOk c B (c.loc id) blk
  own : ∀ id blk g, c.H id = some blk → blkOf (c.loc id) = some g → c.ow g
  inj : ∀ id id' blk blk' g, c.H id = some blk → c.H id' = some blk' → blkOf (c.loc id) = some g → blkOf (c.loc id') = some g → id = id'
  base : B ≤ c.w.heap.size
  lt : ∀ b, c.ow b → b < c.w.heap.size

theorem Reps.mono {c c' : Cx} (h : c.Le c') {q : Bool} {cs : Cells} {vs : List Value} (r : Reps c q cs vs) : Reps c' q cs vs :=
  ⟨r.1, fun i j hi hj => let ⟨v, e, hr, h1⟩ := r.2 i j hi hj; ⟨v, e, hr.mono h, h1⟩⟩

theorem Hb.lt {c : Cx} {g : Nat} {T : TypeId} {vs : List Value} {cs : Cells} (h : Hb c g T vs cs) : g < c.w.heap.size := by
  cases cs with
  | lp L ps => exact (Array.getElem?_eq_some_iff.1 h.1).1
  | ints k xs => exact (Array.getElem?_eq_some_iff.1 (show c.w.heap[g]? = _ from h)).1
  | rows w rs => exact (Array.getElem?_eq_some_iff.1 (show c.w.heap[g]? = _ from h)).1
theorem Hb.to {c c' : Cx} {g : Nat} {T : TypeId} {vs : List Value} {cs : Cells} (h : Hb c g T vs cs) (hs : c'.w.heap[g]? = c.w.heap[g]?) (hl : ∀ L ps, cs = .lp L ps → ∀ t, Rep c false (ps.getD t .any) (L.tmps.getD t undef) → Rep c' false (ps.getD t .any) (L.tmps.getD t undef)) : Hb c' g T vs cs := by
  cases cs with
  | lp L ps => exact ⟨hs.trans h.1, fun t => hl L ps rfl t (h.2 t)⟩
  | ints k xs => exact hs.trans h
  | rows w rs => exact hs.trans h
theorem Hb.cells {c : Cx} {g : Nat} {T : TypeId} {vs : List Value} {cs : Cells} (h : Hb c g T vs cs) (hw : 0 < cs.w) : c.w.heap[g]? = some (.cells (List.toArray vs) T (0, 0)) := by
  cases cs with
  | lp L ps => exact absurd hw (by simp [Cells.w])
  | ints k xs => exact h
  | rows w rs => exact h
theorem Hb.row {c : Cx} {g : Nat} {T : TypeId} {vs : List Value} {cs : Cells} (h : Hb c g T vs cs) (hn : ∀ L q, cs ≠ .lp L q) : c.w.heap[g]? = some (.cells (List.toArray vs) T (0, 0)) := by
  cases cs with
  | lp L ps => exact absurd rfl (hn L ps)
  | ints k xs => exact h
  | rows w rs => exact h
theorem Hb.mk {c : Cx} {g : Nat} {T : TypeId} {vs : List Value} {cs : Cells} (h : c.w.heap[g]? = some (.cells (List.toArray vs) T (0, 0))) (hn : ∀ L q, cs ≠ .lp L q) : Hb c g T vs cs := by
  cases cs with
  | lp L ps => exact absurd rfl (hn L ps)
  | ints k xs => exact h
  | rows w rs => exact h
theorem BlkOk.lt {c : Cx} {B : Nat} {V : Value} {blk : Blk} (h : BlkOk c B V blk) {g : Nat} (hg : blkOf V = some g) : B ≤ g ∧ g < c.w.heap.size := by
  unfold BlkOk at h
  split at h
  · obtain ⟨g', vs, T, rfl, hB, hh, _⟩ := h
    simp [blkOf] at hg
    subst hg
    exact ⟨hB, hh.lt⟩
  · obtain ⟨vs, ho, _⟩ := h
    rcases ho.2 with ⟨rfl, _⟩ | ⟨g', cap, cur, rfl, hB, hh, _⟩
    · simp [blkOf] at hg
    · simp [blkOf] at hg
      subst hg
      exact ⟨hB, (Array.getElem?_eq_some_iff.1 hh).1⟩

/-- A block of which nothing has turned. -/
theorem BlkOk.mono {c c' : Cx} {B : Nat} {V : Value} {blk : Blk} (h : BlkOk c B V blk) (hle : c.Le c') (hs : ∀ g, blkOf V = some g → c'.w.heap[g]? = c.w.heap[g]?) : BlkOk c' B V blk := by
  unfold BlkOk at *
  split
  · rename_i hb
    rw [if_pos hb] at h
    obtain ⟨g, vs, T, rfl, hB, hh, hr⟩ := h
    exact ⟨g, vs, T, rfl, hB, hh.to (hs g rfl) (fun _ _ _ t h => h.mono hle), hr.mono hle⟩
  · rename_i hb
    rw [if_neg hb] at h
    obtain ⟨vs, ho, hr⟩ := h
    refine ⟨vs, ⟨ho.1, ?_⟩, hr.mono hle⟩
    rcases ho.2 with h' | ⟨g, cap, cur, rfl, hB, hh, rest⟩
    · exact .inl h'
    · exact .inr ⟨g, cap, cur, rfl, hB, (hs g rfl).trans hh, rest⟩
end Go.Pv
