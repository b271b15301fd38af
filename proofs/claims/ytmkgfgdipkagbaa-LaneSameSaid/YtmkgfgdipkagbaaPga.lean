import Derived.WalkKit
import Derived.WalkSpells
import Derived.WalkLawsBesides
import Derived.Laws.AppendOwnNone
import Derived.Deep.Quiet
import Derived.ChangeKeysEq
namespace Go.Pv
set_option linter.unusedVariables false
open Go Go.RowKit

mutual
/-- What is known of a value: data, or a place in memory of the call's own. -/
inductive PV where
  | any
  | bool (b : Bool)
  | int (k : IntKind) (n : Int)
  | str (s : ByteArray)
  | nilf
  | nil (cs : Cells)
  | ro (cs : Cells)
  | rop (cs : Cells) (i j : Nat)
  | sl (id off n tot : Nat)
  | ptr (id i j tot : Nat)
  | asl (id j n : Nat)
  | yld (id : Nat)
  | fn (f : Nat) (caps : List PV)
  | agg (cs : List PV)
  | tup (vs : List PV)
  | opt (b : Bool) (v : PV)
  | old (e : TypeId) (cs : Cells)
  | oldp (e : TypeId) (cs : Cells) (i j : Nat)
  | uint (k : IntKind)
/-- What a row of memory holds: numbers of one kind; or elements of w cells each. -/
inductive Cells where
  | ints (k : IntKind) (xs : List Int)
  | rows (w : Nat) (rs : List (List PV))
  | lp (L : Loop) (ps : List PV)
end

instance : Inhabited PV := ⟨.any⟩
def Cells.len : Cells → Nat
  | .ints _ xs => xs.length
  | .rows _ rs => rs.length
  | .lp _ _ => 1
def Cells.w : Cells → Nat
  | .ints _ _ => 1
  | .rows w _ => w
  | .lp _ _ => 0
def Cells.get : Cells → Nat → Nat → PV
  | .ints k xs, i, _ => .int k (xs.getD i 0)
  | .rows _ rs, i, j => (rs.getD i []).getD j .any
  | .lp _ _, _, _ => .any
def Cells.sub : Cells → Nat → Nat → Cells
  | .ints k xs, o, n => .ints k ((xs.drop o).take n)
  | .rows w rs, o, n => .rows w ((rs.drop o).take n)
  | .lp L ps, _, n => if n = 1 then .lp L ps else .rows 0 (List.replicate n [])

/-- A block of the call's own: a row that may grow, or a box of a fixed size. -/
structure Blk where
  cs : Cells
  box : Bool
  e : TypeId

def blkOf : Value → Option Nat
  | .slice (some a) _ _ => some a.block
  | .pointer (some a) => some a.block
  | _ => none

structure Cx where
  w : World
  loc : Nat → Value
  H : Nat → Option Blk
  A : Nat → Prop
  ow : Nat → Prop
  pk : Nat → Prop
def Cx.idle (c : Cx) (b : Nat) : Prop := b < c.w.heap.size ∧ ∀ id blk, c.H id = some blk → blkOf (c.loc id) ≠ some b

/-- What a datum is, told over two kinds of memory: frozen blocks (O), parked blocks (Z). -/
inductive Dm (O Z : Nat → Prop) (w : World) : PV → Value → Prop where
  | int (k n) : Dm O Z w (.int k n) (.int k n)
  | uint (k n) : Dm O Z w (.uint k) (.int k n)
  | bool (t) : Dm O Z w (.bool t) (.bool t)
  | str (s) : Dm O Z w (.str s) (.string s)
  | ro0 (cs : Cells) (a cp) : cs.len = 0 → Dm O Z w (.ro cs) (.slice a 0 cp)
  | ro (cs : Cells) (b off cp : Nat) (f : Nat → Nat → Value) : 0 < cs.len → cs.len ≤ cp → O b →
      (∀ i j, i < cs.len → j < cs.w → w.cell? ⟨b, off + (i * cs.w + j), none⟩ = some (f i j) ∧ (f i j).oneCell' = true) →
      (∀ i j, i < cs.len → j < cs.w → Dm O Z w (cs.get i j) (f i j)) → Dm O Z w (.ro cs) (.slice (some ⟨b, off, none⟩) cs.len cp)
  | old0 (T : TypeId) (cs : Cells) (a cp) : cs.len = 0 → Dm O Z w (.old T cs) (.slice a 0 cp)
  | old (T : TypeId) (cs : Cells) (b off cp : Nat) (arr : Array Value) (f : Nat → Nat → Value) : 0 < cs.len → cs.len ≤ cp → Z b → w.heap[b]? = some (.cells arr T (0, 0)) →
      (∀ i j, i < cs.len → j < cs.w → arr[off + (i * cs.w + j)]? = some (f i j) ∧ (f i j).oneCell' = true) →
      (∀ i j, i < cs.len → j < cs.w → Dm O Z w (cs.get i j) (f i j)) → Dm O Z w (.old T cs) (.slice (some ⟨b, off, none⟩) cs.len cp)
  | optO (d : Bool) (T : TypeId) (cs : Cells) (v) : Dm O Z w (.old T cs) v → Dm O Z w (.opt d (.old T cs)) v
  | optR (T : TypeId) (cs : Cells) (v) : Dm O Z w (.ro cs) v → Dm O Z w (.opt false (.old T cs)) v
theorem Dm.mono {O Z O' Z' : Nat → Prop} {w w' : World} (ho : ∀ b, O b → O' b ∧ ∀ o, w'.cell? ⟨b, o, none⟩ = w.cell? ⟨b, o, none⟩) (hz : ∀ b, Z b → Z' b ∧ w'.heap[b]? = w.heap[b]?) {p : PV} {v : Value} (r : Dm O Z w p v) : Dm O' Z' w' p v := by
  induction r with
  | int k n => exact .int k n
  | uint k n => exact .uint k n
  | bool t => exact .bool t
  | str s => exact .str s
  | ro0 cs a cp h => exact .ro0 cs a cp h
  | ro cs b off cp f h0 hc hb hcell _ ih => exact .ro cs b off cp f h0 hc (ho b hb).1 (fun i j hi hj => ⟨((ho b hb).2 _).trans (hcell i j hi hj).1, (hcell i j hi hj).2⟩) ih
  | old0 T cs a cp h => exact .old0 T cs a cp h
  | old T cs b off cp arr f h0 hc hb hh hcell _ ih => exact .old T cs b off cp arr f h0 hc (hz b hb).1 ((hz b hb).2.trans hh) hcell ih
  | optO d T cs v _ ih => exact .optO d T cs v ih
  | optR T cs v _ ih => exact .optR T cs v ih
/-- The frozen blocks. -/
def Cx.fz (c : Cx) (b : Nat) : Prop := ¬ c.ow b ∧ b < c.w.heap.size

def SlOk (V : Value) (w off n tot : Nat) (v : Value) : Prop :=
  off + n ≤ tot ∧ ((off = 0 ∧ n = tot → v = V ∨ (V = .slice none 0 0 ∧ ∃ a, v = .slice a 0 0)) ∧ (¬ (off = 0 ∧ n = tot) → n = 0 ∨ ∃ g cp, blkOf V = some g ∧ v = .slice (some ⟨g, off * w, none⟩) n cp))

/-- What is known of a value holds in this memory. In pure mode ('true') no place of the call's own stands in it. -/
inductive Rep (c : Cx) : Bool → PV → Value → Prop where
  | any (b) (v) : Rep c b .any v
  | bool (b) (t) : Rep c b (.bool t) (.bool t)
  | int (b) (k n) : Rep c b (.int k n) (.int k n)
  | str (b) (s) : Rep c b (.str s) (.string s)
  | nilf (b) : Rep c b .nilf .nilFunc
  | nil (b) (cs : Cells) (a) : cs.len = 0 → Rep c b (.nil cs) (.slice a 0 0)
  | ro0 (b) (cs : Cells) (a cp) : cs.len = 0 → Rep c b (.ro cs) (.slice a 0 cp)
  | ro (p) (cs : Cells) (b off cp : Nat) (f : Nat → Nat → Value) : 0 < cs.len → cs.len ≤ cp → ¬ c.ow b → b < c.w.heap.size →
      (∀ i j, i < cs.len → j < cs.w → c.w.cell? ⟨b, off + (i * cs.w + j), none⟩ = some (f i j) ∧ (f i j).oneCell' = true) →
      (∀ i j, i < cs.len → j < cs.w → Rep c true (cs.get i j) (f i j)) → Rep c p (.ro cs) (.slice (some ⟨b, off, none⟩) cs.len cp)
  | rop (p) (cs : Cells) (i0 j0 b off : Nat) (f : Nat → Nat → Value) : ¬ c.ow b → b < c.w.heap.size →
      (∀ i j, i < cs.len → j < cs.w → c.w.cell? ⟨b, off + (i * cs.w + j), none⟩ = some (f i j) ∧ (f i j).oneCell' = true) →
      (∀ i j, i < cs.len → j < cs.w → Rep c true (cs.get i j) (f i j)) → Rep c p (.rop cs i0 j0) (.pointer (some ⟨b, off + (i0 * cs.w + j0), none⟩))
  | sl (id off n tot v) : c.A id → (∃ a cp, v = .slice a n cp ∧ n ≤ cp) → (∀ blk, c.H id = some blk → blk.box = false ∧ tot ≤ blk.cs.len ∧ (blk.cs.len = tot → SlOk (c.loc id) blk.cs.w off n tot v)) → Rep c false (.sl id off n tot) v
  | ptr (id i j tot v) : c.A id → (∃ x, v = .pointer x) → (∀ blk, c.H id = some blk → tot ≤ blk.cs.len ∧ (blk.cs.len = tot → ∃ g, blkOf (c.loc id) = some g ∧ v = .pointer (some ⟨g, i * blk.cs.w + j, none⟩))) → Rep c false (.ptr id i j tot) v
  | asl (id j n v) : c.A id → (∃ a cp, v = .slice a n cp ∧ n ≤ cp) → (∀ blk, c.H id = some blk → blk.box = true ∧ 1 ≤ blk.cs.len ∧ (blk.cs.len = 1 → ∃ g cp, blkOf (c.loc id) = some g ∧ v = .slice (some ⟨g, j, none⟩) n cp)) → Rep c false (.asl id j n) v
  | yld (id v) : c.A id → (∃ l, v = .func (.yield l) #[] #[]) → (∀ blk, c.H id = some blk → 1 ≤ blk.cs.len ∧ (blk.cs.len = 1 → ∃ g, blkOf (c.loc id) = some g ∧ v = .func (.yield g) #[] #[])) → Rep c false (.yld id) v
  | fn (p) (f caps vs) : List.length caps = Array.size vs → (∀ (i : Nat) q v, caps[i]? = some q → vs[i]? = some v → Rep c p q v) → Rep c p (.fn f caps) (.func (.func f) #[] vs)
  | agg (p) (cs vs) : List.length cs = Array.size vs → (∀ (i : Nat) q v, cs[i]? = some q → vs[i]? = some v → Rep c p q v) → Rep c p (.agg cs) (.agg vs)
  | tup (p) (cs vs) : List.length cs = Array.size vs → (∀ (i : Nat) q v, cs[i]? = some q → vs[i]? = some v → Rep c p q v) → Rep c p (.tup cs) (.tuple vs)
  | opt (p) (b q v) : (b = true → Rep c p q v) → (b = false → v = undef) → Rep c p (.opt b q) v
  | old (T cs v) : Dm c.fz c.pk c.w (.old T cs) v → Rep c false (.old T cs) v
  | oldp (T : TypeId) (cs : Cells) (i0 j0 b off : Nat) (arr : Array Value) (f : Nat → Nat → Value) : c.pk b → c.w.heap[b]? = some (.cells arr T (0, 0)) →
      (∀ i j, i < cs.len → j < cs.w → arr[off + (i * cs.w + j)]? = some (f i j) ∧ (f i j).oneCell' = true) →
      (∀ i j, i < cs.len → j < cs.w → Dm c.fz c.pk c.w (cs.get i j) (f i j)) → Rep c false (.oldp T cs i0 j0) (.pointer (some ⟨b, off + (i0 * cs.w + j0), none⟩))
  | uint (p) (k n) : Rep c p (.uint k) (.int k n)

structure Cx.Le (c c' : Cx) : Prop where
  stable : ∀ b, ¬ c.ow b → b < c.w.heap.size → ¬ c'.ow b ∧ b < c'.w.heap.size ∧ ∀ o, c'.w.cell? ⟨b, o, none⟩ = c.w.cell? ⟨b, o, none⟩
  all : ∀ id, c.A id → c'.A id
  ids : ∀ id blk', c.A id → c'.H id = some blk' → ∃ blk, c.H id = some blk ∧ blk.cs.len ≤ blk'.cs.len ∧ blk'.cs.w = blk.cs.w ∧ blk'.box = blk.box ∧ (blk'.cs.len = blk.cs.len → c'.loc id = c.loc id)
  park : ∀ b, c.pk b → c'.pk b ∧ c'.w.heap[b]? = c.w.heap[b]?

theorem Cx.Le.refl (c : Cx) : c.Le c := ⟨fun b h h' => ⟨h, h', fun _ => rfl⟩, fun _ h => h, fun id blk _ h => ⟨blk, h, Nat.le_refl _, rfl, rfl, fun _ => rfl⟩, fun b h => ⟨h, rfl⟩⟩
theorem Cx.Le.dm {c c' : Cx} (h : c.Le c') {p : PV} {v : Value} (r : Dm c.fz c.pk c.w p v) : Dm c'.fz c'.pk c'.w p v :=
  r.mono (fun b hb => let ⟨h1, h2, h3⟩ := h.stable b hb.1 hb.2; ⟨⟨h1, h2⟩, h3⟩) h.park
theorem Cx.Le.trans {a b c : Cx} (h : a.Le b) (k : b.Le c) : a.Le c := by
  refine ⟨fun x h1 h2 => ?_, fun id h1 => k.all id (h.all id h1), fun id blk' ha hb => ?_, fun b hb => ⟨(k.park b (h.park b hb).1).1, (k.park b (h.park b hb).1).2.trans (h.park b hb).2⟩⟩
  · obtain ⟨h3, h4, h5⟩ := h.stable x h1 h2
    obtain ⟨h6, h7, h8⟩ := k.stable x h3 h4
    exact ⟨h6, h7, fun o => (h8 o).trans (h5 o)⟩
  · obtain ⟨b1, e1, l1, w1, x1, f1⟩ := k.ids id blk' (h.all id ha) hb
    obtain ⟨b0, e0, l0, w0, x0, f0⟩ := h.ids id b1 ha e1
    exact ⟨b0, e0, by omega, w1.trans w0, x1.trans x0, fun e => (f1 (by omega)).trans (f0 (by omega))⟩

theorem Rep.mono {c c' : Cx} (h : c.Le c') {q : Bool} {p : PV} {v : Value} (r : Rep c q p v) : Rep c' q p v := by
  induction r with
  | any q v => exact .any q v
  | bool q b => exact .bool q b
  | int q k n => exact .int q k n
  | str q s => exact .str q s
  | nilf q => exact .nilf q
  | nil q cs a e => exact .nil q cs a e
  | ro0 q cs a cp e => exact .ro0 q cs a cp e
  | ro q cs b off cp f h0 hc hb hlt hcell _ ih =>
    obtain ⟨h1, h2, h3⟩ := h.stable b hb hlt
    exact .ro q cs b off cp f h0 hc h1 h2 (fun i j hi hj => ⟨(h3 _).trans (hcell i j hi hj).1, (hcell i j hi hj).2⟩) ih
  | rop q cs i0 j0 b off f hb hlt hcell _ ih =>
    obtain ⟨h1, h2, h3⟩ := h.stable b hb hlt
    exact .rop q cs i0 j0 b off f h1 h2 (fun i j hi hj => ⟨(h3 _).trans (hcell i j hi hj).1, (hcell i j hi hj).2⟩) ih
  | sl id off n tot v ha hs hk =>
    refine .sl id off n tot v (h.all id ha) hs fun blk' hb => ?_
    obtain ⟨blk, e, hl, hw, hx, hi⟩ := h.ids id blk' ha hb
    obtain ⟨h0, h1, h2⟩ := hk blk e
    refine ⟨hx.trans h0, by omega, fun e' => ?_⟩
    rw [hi (by omega), hw]
    exact h2 (by omega)
  | ptr id i j tot v ha hs hk =>
    refine .ptr id i j tot v (h.all id ha) hs fun blk' hb => ?_
    obtain ⟨blk, e, hl, hw, hx, hi⟩ := h.ids id blk' ha hb
    obtain ⟨h1, h2⟩ := hk blk e
    refine ⟨by omega, fun e' => ?_⟩
    rw [hi (by omega), hw]
    exact h2 (by omega)
  | asl id j n v ha hs hk =>
    refine .asl id j n v (h.all id ha) hs fun blk' hb => ?_
    obtain ⟨blk, e, hl, hw, hx, hi⟩ := h.ids id blk' ha hb
    obtain ⟨h0, h1, h2⟩ := hk blk e
    refine ⟨hx.trans h0, by omega, fun e' => ?_⟩
    rw [hi (by omega)]
    exact h2 (by omega)
  | yld id v ha hs hk =>
    refine .yld id v (h.all id ha) hs fun blk' hb => ?_
    obtain ⟨blk, e, hl, hw, hx, hi⟩ := h.ids id blk' ha hb
    obtain ⟨h1, h2⟩ := hk blk e
    refine ⟨by omega, fun e' => ?_⟩
    rw [hi (by omega)]
    exact h2 (by omega)
  | fn q f caps vs hl _ ih => exact .fn q f caps vs hl ih
  | agg q cs vs hl _ ih => exact .agg q cs vs hl ih
  | tup q cs vs hl _ ih => exact .tup q cs vs hl ih
  | opt q b p v _ h0 ih => exact .opt q b p v ih h0
  | old Te cs v hd => exact .old Te cs v (h.dm hd)
  | oldp Te cs i0 j0 b off arr f hb hh hcell hd => exact .oldp Te cs i0 j0 b off arr f (h.park b hb).1 ((h.park b hb).2.trans hh) hcell fun i j hi hj => h.dm (hd i j hi hj)
  | uint q k n => exact .uint q k n

/-- From one memory to another in which no more is the call's own, and of the blocks of which nothing has turned: pure values alone. -/
theorem Rep.bare {c c' : Cx} (h : ∀ b, ¬ c.ow b → b < c.w.heap.size → ¬ c'.ow b ∧ b < c'.w.heap.size ∧ ∀ o, c'.w.cell? ⟨b, o, none⟩ = c.w.cell? ⟨b, o, none⟩) {q : Bool} (hq : q = true) {p : PV} {v : Value} (r : Rep c q p v) : Rep c' q p v := by
  induction r with
  | any q v => exact .any q v
  | bool q b => exact .bool q b
  | int q k n => exact .int q k n
  | str q s => exact .str q s
  | nilf q => exact .nilf q
  | nil q cs a e => exact .nil q cs a e
  | ro0 q cs a cp e => exact .ro0 q cs a cp e
  | ro q cs b off cp f h0 hc hb hlt hcell _ ih =>
    obtain ⟨h1, h2, h3⟩ := h b hb hlt
    exact .ro q cs b off cp f h0 hc h1 h2 (fun i j hi hj => ⟨(h3 _).trans (hcell i j hi hj).1, (hcell i j hi hj).2⟩) (fun i j hi hj => ih i j hi hj rfl)
  | rop q cs i0 j0 b off f hb hlt hcell _ ih =>
    obtain ⟨h1, h2, h3⟩ := h b hb hlt
    exact .rop q cs i0 j0 b off f h1 h2 (fun i j hi hj => ⟨(h3 _).trans (hcell i j hi hj).1, (hcell i j hi hj).2⟩) (fun i j hi hj => ih i j hi hj rfl)
  | sl id off n tot v ha hs hk => cases hq
  | ptr id i j tot v ha hs hk => cases hq
  | asl id j n v ha hs hk => cases hq
  | yld id v ha hs hk => cases hq
  | fn q f caps vs hl _ ih => exact .fn q f caps vs hl (fun i p v h1 h2 => ih i p v h1 h2 hq)
  | agg q cs vs hl _ ih => exact .agg q cs vs hl (fun i p v h1 h2 => ih i p v h1 h2 hq)
  | tup q cs vs hl _ ih => exact .tup q cs vs hl (fun i p v h1 h2 => ih i p v h1 h2 hq)
  | opt q b p v _ h0 ih => exact .opt q b p v (fun h => ih h hq) h0
  | old Te cs v hd => cases hq
  | oldp Te cs i0 j0 b off arr f hb hh hcell hd => cases hq
  | uint q k n => exact .uint q k n

theorem Rep.loose {c : Cx} {q : Bool} {p : PV} {v : Value} (r : Rep c q p v) : Rep c false p v := by
  induction r with
  | any q v => exact .any _ v
  | bool q b => exact .bool _ b
  | int q k n => exact .int _ k n
  | str q s => exact .str _ s
  | nilf q => exact .nilf _
  | nil q cs a e => exact .nil _ cs a e
  | ro0 q cs a cp e => exact .ro0 _ cs a cp e
  | ro q cs b off cp f h0 hc hb hlt hcell hr ih => exact .ro _ cs b off cp f h0 hc hb hlt hcell hr
  | rop q cs i0 j0 b off f hb hlt hcell hr ih => exact .rop _ cs i0 j0 b off f hb hlt hcell hr
  | sl id off n tot v ha hs hk => exact .sl id off n tot v ha hs hk
  | ptr id i j tot v ha hs hk => exact .ptr id i j tot v ha hs hk
  | asl id j n v ha hs hk => exact .asl id j n v ha hs hk
  | yld id v ha hs hk => exact .yld id v ha hs hk
  | fn q f caps vs hl _ ih => exact .fn _ f caps vs hl ih
  | agg q cs vs hl _ ih => exact .agg _ cs vs hl ih
  | tup q cs vs hl _ ih => exact .tup _ cs vs hl ih
  | opt q b p v _ h0 ih => exact .opt _ b p v ih h0
  | old Te cs v hd => exact .old Te cs v hd
  | oldp Te cs i0 j0 b off arr f hb hh hcell hd => exact .oldp Te cs i0 j0 b off arr f hb hh hcell hd
  | uint q k n => exact .uint _ k n

/-! ### The heap -/
def Reps (c : Cx) (q : Bool) (cs : Cells) (vs : List Value) : Prop := vs.length = cs.len * cs.w ∧ ∀ i j, i < cs.len → j < cs.w → ∃ v, vs[i * cs.w + j]? = some v ∧ Rep c q (cs.get i j) v ∧ v.oneCell' = true
/-- What lies in a box: cells; or a loop's record. -/
def Hb (c : Cx) (g : Nat) (T : TypeId) (vs : List Value) : Cells → Prop
  | .lp L ps => c.w.heap[g]? = some (.loop L) ∧ ∀ t, Rep c false (ps.getD t .any) (L.tmps.getD t undef)
  | _ => c.w.heap[g]? = some (.cells (List.toArray vs) T (0, 0))
def BlkOk (c : Cx) (B : Nat) (V : Value) (blk : Blk) : Prop :=
  if blk.box then ∃ g vs T, V = .pointer (some ⟨g, 0, none⟩) ∧ B ≤ g ∧ Hb c g T vs blk.cs ∧ Reps c false blk.cs vs
  else ∃ vs, c.w.ownsRow B blk.e blk.cs.w V blk.cs.len vs ∧ Reps c true blk.cs vs
structure HeapOk (c : Cx) (B : Nat) : Prop where
  ok : ∀ id blk, c.H id = some blk → c.A id ∧ BlkOk c B (c.loc id) blk
  own : ∀ id blk g, c.H id = some blk → blkOf (c.loc id) = some g → c.ow g
  inj : ∀ id id' blk blk' g, c.H id = some blk → c.H id' = some blk' → blkOf (c.loc id) = some g → blkOf (c.loc id') = some g → id = id'
  base : B ≤ c.w.heap.size
  lt : ∀ b, c.ow b → b < c.w.heap.size
  pk : ∀ b, c.pk b → c.ow b ∧ c.idle b ∧ ∃ vs T, c.w.heap[b]? = some (.cells vs T (0, 0))

theorem Reps.mono {c c' : Cx} (h : c.Le c') {q : Bool} {cs : Cells} {vs : List Value} (r : Reps c q cs vs) : Reps c' q cs vs :=
  ⟨r.1, fun i j hi hj => let ⟨v, e, hr, h1⟩ := r.2 i j hi hj; ⟨v, e, hr.mono h, h1⟩⟩

theorem Hb.lt {c : Cx} {g : Nat} {T : TypeId} {vs : List Value} {cs : Cells} (h : Hb c g T vs cs) : g < c.w.heap.size := by
  cases cs with
  | lp L ps => exact (Array.getElem?_eq_some_iff.1 h.1).1
  | ints k xs => exact (Array.getElem?_eq_some_iff.1 (show c.w.heap[g]? = _ from h)).1
  | rows w rs => exact (Array.getElem?_eq_some_iff.1 (show c.w.heap[g]? = _ from h)).1
theorem Hb.to {c c' : Cx} {g : Nat} {T : TypeId} {vs : List Value} {cs : Cells} (h : Hb c g T vs cs) (hs : c'.w.heap[g]? = c.w.heap[g]?) (hl : ∀ L ps, cs = .lp L ps → ∀ t, Rep c false (ps.getD t .any) (L.tmps.getD t undef) → Rep c' false (ps.getD t .any) (L.tmps.getD t undef)) : Hb c' g T vs cs := by
  cases cs with
  | lp L ps => exact ⟨hs.trans h.1, fun t => hl L ps rfl t (h.2 t)⟩
  | ints k xs => exact hs.trans h
  | rows w rs => exact hs.trans h
theorem Hb.cells {c : Cx} {g : Nat} {T : TypeId} {vs : List Value} {cs : Cells} (h : Hb c g T vs cs) (hw : 0 < cs.w) : c.w.heap[g]? = some (.cells (List.toArray vs) T (0, 0)) := by
  cases cs with
  | lp L ps => exact absurd hw (by simp [Cells.w])
  | ints k xs => exact h
  | rows w rs => exact h
theorem Hb.row {c : Cx} {g : Nat} {T : TypeId} {vs : List Value} {cs : Cells} (h : Hb c g T vs cs) (hn : ∀ L q, cs ≠ .lp L q) : c.w.heap[g]? = some (.cells (List.toArray vs) T (0, 0)) := by
  cases cs with
  | lp L ps => exact absurd rfl (hn L ps)
  | ints k xs => exact h
  | rows w rs => exact h
theorem Hb.mk {c : Cx} {g : Nat} {T : TypeId} {vs : List Value} {cs : Cells} (h : c.w.heap[g]? = some (.cells (List.toArray vs) T (0, 0))) (hn : ∀ L q, cs ≠ .lp L q) : Hb c g T vs cs := by
  cases cs with
  | lp L ps => exact absurd rfl (hn L ps)
  | ints k xs => exact h
  | rows w rs => exact h
theorem BlkOk.lt {c : Cx} {B : Nat} {V : Value} {blk : Blk} (h : BlkOk c B V blk) {g : Nat} (hg : blkOf V = some g) : B ≤ g ∧ g < c.w.heap.size := by
  unfold BlkOk at h
  split at h
  · obtain ⟨g', vs, T, rfl, hB, hh, _⟩ := h
    simp [blkOf] at hg
    subst hg
    exact ⟨hB, hh.lt⟩
  · obtain ⟨vs, ho, _⟩ := h
    rcases ho.2 with ⟨rfl, _⟩ | ⟨g', cap, cur, rfl, hB, hh, _⟩
    · simp [blkOf] at hg
    · simp [blkOf] at hg
      subst hg
      exact ⟨hB, (Array.getElem?_eq_some_iff.1 hh).1⟩

/-- A block of which nothing has turned. -/
theorem BlkOk.mono {c c' : Cx} {B : Nat} {V : Value} {blk : Blk} (h : BlkOk c B V blk) (hle : c.Le c') (hs : ∀ g, blkOf V = some g → c'.w.heap[g]? = c.w.heap[g]?) : BlkOk c' B V blk := by
  unfold BlkOk at *
  split
  · rename_i hb
    rw [if_pos hb] at h
    obtain ⟨g, vs, T, rfl, hB, hh, hr⟩ := h
    exact ⟨g, vs, T, rfl, hB, hh.to (hs g rfl) (fun _ _ _ t h => h.mono hle), hr.mono hle⟩
  · rename_i hb
    rw [if_neg hb] at h
    obtain ⟨vs, ho, hr⟩ := h
    refine ⟨vs, ⟨ho.1, ?_⟩, hr.mono hle⟩
    rcases ho.2 with h' | ⟨g, cap, cur, rfl, hB, hh, rest⟩
    · exact .inl h'
    · exact .inr ⟨g, cap, cur, rfl, hB, (hs g rfl).trans hh, rest⟩
end Go.Pv


namespace Go.Pv
set_option linter.unusedVariables false
open Go Go.RowKit

/-! ### The table of types -/
inductive Tk where
  | int (k : IntKind)
  | bool
  | str
  | slice (e : TypeId)
  | struct (fs : List (TypeId × Nat))
  | arr (n : Nat) (e : TypeId)
  | other
structure TI where
  k : Tk
  sz : Nat
  bytes : Nat
  zero : PV
  em : List (Option Cells)     -- of each cell: what a nil slice that stands there is made of
abbrev Ty := TypeId → Option TI

/-- A constant's PV; 'em' tells what kind of cells a nil slice would have. -/
def cst1 : Option Cells → Value → PV
  | em, .slice none 0 0 => .nil (em.getD (.rows 0 []))
  | _, .int k n => .int k n
  | _, .bool b => .bool b
  | _, .string s => .str s
  | _, .nilFunc => .nilf
  | _, _ => .any
def cstL : List (Option Cells) → List Value → List PV
  | _, [] => []
  | [], v :: vs => cst1 none v :: cstL [] vs
  | e :: es, v :: vs => cst1 e v :: cstL es vs
def cst (em : List (Option Cells)) : Value → PV
  | .agg cs => .agg (cstL em cs.toList)
  | v => cst1 (em.headD none) v

/-- A zero value: the PV and the value that it stands for, in every world. -/
def Zero (z : PV) (v : Value) : Prop := ∀ (c : Cx) (q : Bool), Rep c q z v

def aggD : TypeDesc → Bool
  | .struct _ | .array _ _ => true
  | _ => false
/-- A struct of numbers and truth values alone. -/
def plainF (T : Ty) (fs : List (TypeId × Nat)) : Bool := fs.all fun p => match T p.1 with
  | some ti => (match ti.k with
    | .int _ => true
    | .bool => true
    | _ => false)
  | none => false
structure TyOk (P : Program) (T : Ty) : Prop where
  em : ∀ t ti, T t = some ti → ∀ cs, some cs ∈ ti.em → cs.len = 0
  info : ∀ t ti, T t = some ti → ∃ i, P.info? t = some i ∧ i.size = ti.sz ∧ i.bytes = ti.bytes ∧ ∃ z, i.zero = some z ∧ Zero ti.zero z ∧ z.cells.size = ti.sz
  int : ∀ t ti k, T t = some ti → ti.k = .int k → P.underlying t = some (.int k) ∧ ti.sz = 1
  bool : ∀ t ti, T t = some ti → ti.k = .bool → P.underlying t = some .bool ∧ ti.sz = 1
  str : ∀ t ti, T t = some ti → ti.k = .str → P.underlying t = some .string ∧ ti.sz = 1
  slice : ∀ t ti e, T t = some ti → ti.k = .slice e → P.underlying t = some (.slice e) ∧ ti.sz = 1
  struct : ∀ t ti fs, T t = some ti → ti.k = .struct fs → ∃ F, P.underlying t = some (.struct F) ∧ F.toList.map (fun f => (f.type, f.offset)) = fs ∧ ∀ p ∈ fs, (T p.1).isSome = true
  arr : ∀ t ti n e, T t = some ti → ti.k = .arr n e → P.underlying t = some (.array n e)
  other : ∀ t ti, T t = some ti → ti.k = .other → ∃ d, P.underlying t = some d ∧ aggD d = false ∧ ti.sz = 1
  any1 : ∀ t ti i z, T t = some ti → ti.zero = .any → P.info? t = some i → i.zero = some z → z.oneCell' = true ∧ z.cells = #[z]
  cmp : ∀ t ti fs, T t = some ti → ti.k = .struct fs → plainF T fs = true → ∃ F, P.underlying t = some (.struct F) ∧ F.toList.map (fun f => (f.type, f.offset)) = fs ∧ (∀ f ∈ F.toList, f.name ≠ "_") ∧ P.stoodInHeld t = false ∧ P.eqGuardType P.depth t = false

def Tk.agg : Tk → Bool
  | .struct _ | .arr _ _ => true
  | _ => false

/-- What an operation does to the blocks of the call's own. -/
abbrev Eff := List (Nat × Option Blk)
def put {α : Type} (s : Nat → α) (i : Nat) (v : α) : Nat → α := fun j => if i = j then v else s j
theorem put_same {α : Type} (s : Nat → α) (i : Nat) (v : α) : put s i v i = v := if_pos rfl
theorem put_ne {α : Type} (s : Nat → α) {i j : Nat} (v : α) (h : i ≠ j) : put s i v j = s j := if_neg h
theorem put_at {α : Type} (s : Nat → α) (i j : Nat) (v : α) : put s i v j = if i = j then v else s j := rfl
def Eff.on : Eff → (Nat → Option Blk) → Nat → Option Blk
  | [], H => H
  | (i, b) :: r, H => Eff.on r (put H i b)

def cellsOf : PV → Option (List PV)
  | .any => none
  | .opt _ _ => none
  | .tup _ => none
  | .agg cs => some cs
  | .asl _ _ _ => none
  | .yld _ => none
  | v => some [v]

/-- A cell may hold it: it is no aggregate, and it is known what it is. -/
def PV.one : PV → Bool
  | .any | .agg _ | .tup _ | .opt _ _ | .asl _ _ _ | .yld _ => false
  | _ => true

/-- A value of the type t as it stands at the element i, cell j. -/
def ldC (ti : TI) (cs : Cells) (i j : Nat) (K : PV → Prop) : Prop :=
  if ti.k.agg then match cs with
    | .rows w rs => i < rs.length ∧ j + ti.sz ≤ w ∧ j + ti.sz ≤ (rs.getD i []).length ∧ K (.agg (((rs.getD i []).drop j).take ti.sz))
    | _ => False
  else i < cs.len ∧ j < cs.w ∧ K (cs.get i j)

/-- The same cells, with these from the element i, cell j on. -/
def stC (cs : Cells) (i j : Nat) (vs : List PV) (K : Cells → Prop) : Prop :=
  match cs with
  | .ints k xs => match vs with
    | [.int k' n] => i < xs.length ∧ j = 0 ∧ k' = k ∧ K (.ints k (xs.set i n))
    | _ => False
  | .rows w rs => i < rs.length ∧ j + vs.length ≤ w ∧ (rs.getD i []).length = w ∧ vs.all PV.one = true ∧ K (.rows w (rs.set i ((rs.getD i []).take j ++ vs ++ (rs.getD i []).drop (j + vs.length))))
  | .lp _ _ => False

/-- Two rows one behind the other. -/
def apC (a b : Cells) (K : Cells → Prop) : Prop :=
  match a, b with
  | .ints k xs, .ints k' ys => k' = k ∧ K (.ints k (xs ++ ys))
  | .rows w rs, .rows w' rs' => w' = w ∧ K (.rows w (rs ++ rs'))
  | _, _ => False

/-- A slice that may be read: its cells. -/
def rdS (H : Nat → Option Blk) (v : PV) (K : Cells → Prop) : Prop :=
  match v with
  | .ro cs => K cs
  | .nil cs => K cs
  | .sl id off n tot => match H id with
    | some b => b.cs.len = tot ∧ K (b.cs.sub off n)
    | none => False
  | _ => False

def ops2 (op : BinOp) (k : IntKind) (a b : Int) (K : PV → Prop) : Prop :=
  match op with
  | .add => K (.int k (k.wrap (a + b)))
  | .sub => K (.int k (k.wrap (a - b)))
  | .mul => K (.int k (k.wrap (a * b)))
  | .quo => b ≠ 0 ∧ K (.int k (k.wrap (a.tdiv b)))
  | .rem => b ≠ 0 ∧ K (.int k (a.tmod b))
  | .and => K (.int k (k.wrap (BitVec.ofInt k.bits a &&& BitVec.ofInt k.bits b).toNat))
  | .or => K (.int k (k.wrap (BitVec.ofInt k.bits a ||| BitVec.ofInt k.bits b).toNat))
  | .xor => K (.int k (k.wrap (BitVec.ofInt k.bits a ^^^ BitVec.ofInt k.bits b).toNat))
  | .eql => K (.bool (decide (a = b)))
  | .neq => K (.bool (!decide (a = b)))
  | .lss => K (.bool (decide (a < b)))
  | .leq => K (.bool (decide (a ≤ b)))
  | .gtr => K (.bool (decide (b < a)))
  | .geq => K (.bool (decide (b ≤ a)))
  | _ => False
def sh2 (op : BinOp) (k : IntKind) (a b : Int) (K : PV → Prop) : Prop :=
  match op with
  | .shl => 0 ≤ b ∧ K (.int k (k.wrap (a * 2 ^ (min b.toNat k.bits))))
  | .shr => 0 ≤ b ∧ K (.int k (a.fdiv (2 ^ (min b.toNat k.bits))))
  | _ => False
def eq1 (k : Tk) : PV → PV → Option Bool
  | .int j a, .int j' b => match k with
    | .int _ => if j' = j then some (decide (a = b)) else none
    | _ => none
  | .bool a, .bool b => match k with
    | .bool => some (a == b)
    | _ => none
  | _, _ => none
def eqF (T : Ty) : List (TypeId × Nat) → List PV → List PV → Option Bool
  | [], _, _ => some true
  | p :: fs, a, b => match T p.1, a[p.2]?, b[p.2]? with
    | some ti, some x, some y => match eq1 ti.k x y with
      | some r => (match eqF T fs a b with
        | some q => some (r && q)
        | none => none)
      | none => none
    | _, _, _ => none
def bin (T : Ty) (xt : TypeId) (op : BinOp) (x y : PV) (K : PV → Prop) : Prop :=
  match x, y with
  | .int k a, .int k' b => match op with
    | .shl | .shr => sh2 op k a b K
    | _ => k' = k ∧ ops2 op k a b K
  | .bool a, .bool b => match T xt with
    | some ti => ti.k = .bool ∧ (match op with
      | .eql => K (.bool (a == b))
      | .neq => K (.bool (!(a == b)))
      | _ => False)
    | none => False
  | .str a, .str b => match op with
    | .eql => K (.bool (decide (a = b)))
    | .neq => K (.bool (!decide (a = b)))
    | .add => ((a.size + b.size : Nat) : Int) ≤ 9223372036854775807 ∧ K (.str (a ++ b))
    | _ => False
  | .agg a, .agg b => match T xt with
    | some ti => (match ti.k with
      | .struct fs => (match eqF T fs a b with
        | some r => (match op with
          | .eql => K (.bool r)
          | .neq => K (.bool (!r))
          | _ => False)
        | none => False)
      | _ => False)
    | none => False
  | _, _ => False
end Go.Pv


namespace Go.Pv
set_option linter.unusedVariables false
open Go Go.RowKit

/-! ### Calls -/
/-- A memory of which the blocks of S are somebody's own. -/
def see (S : Nat → Prop) (w : World) : Cx := { w := w, loc := fun _ => .nilFunc, H := fun _ => none, A := fun _ => False, ow := S, pk := fun _ => False }
def ArgsOk (c : Cx) (q : Bool) (ps : List PV) (vs : Array Value) : Prop := ps.length = vs.size ∧ ∀ (i : Nat) p v, ps[i]? = some p → vs[i]? = some v → Rep c q p v
/-- The function, called with these (readable) arguments, returns this. -/
def PCall (P : Program) (f : FuncId) (ps : List PV) (r : PV) : Prop :=
  (∃ fn, P.funcs[f]? = some fn ∧ (fn.name == "runtime.NumGoroutine") = false ∧ fn.body.isNone = false) ∧
  ∀ (w : World) (vs : Array Value) (S : Nat → Prop), (∀ b, S b → b < w.heap.size) → ArgsOk (see S w) true ps vs → Calls P f vs w fun e w' => ∃ v, e = .returned v ∧ Rep (see S w') true r v ∧ Below w.heap.size w w'
/-- A block of the heap in which no block that is known of lies. -/
structure Post (c c' : Cx) (B : Nat) (eff : Eff) : Prop where
  le : c.Le c'
  heap : HeapOk c' B
  H : c'.H = eff.on c.H
  A : ∀ id, c'.A id ↔ c.A id ∨ id ∈ eff.map (·.1)
  below : Below B c.w c'.w
  ow : ∀ b, b < B → c.ow b → c'.ow b
  only : ∀ b, c.idle b → c'.idle b ∧ c'.w.heap[b]? = c.w.heap[b]? ∧ (c.ow b → c'.ow b)
  pkn : ∀ b, c'.pk b → c.pk b ∨ ¬ c.idle b
def getH : List (Nat × Option Blk) → Nat → Option Blk
  | [], _ => none
  | (i, v) :: r, t => if i = t then v else getH r t
/-- The function, called where these blocks are known (numbers from n on are free), returns this and does that to the blocks. -/
def HCall (P : Program) (f : FuncId) (ps : List PV) (Hr : List (Nat × Option Blk)) (n : Nat) (r : PV) (e : Eff) : Prop :=
  (∃ fn, P.funcs[f]? = some fn ∧ (fn.name == "runtime.NumGoroutine") = false ∧ fn.body.isNone = false) ∧
  ∀ (c : Cx) (B : Nat) (vs : Array Value), HeapOk c B → c.H = getH Hr → (∀ id, n ≤ id → ¬ c.A id) → ArgsOk c false ps vs → Calls P f vs c.w fun en w' => ∃ v c', en = .returned v ∧ c'.w = w' ∧ Rep c' false r v ∧ Post c c' B e
/-- No slice stands in it. -/
def scal1 : PV → Bool
  | .any | .bool _ | .int _ _ | .str _ | .nilf => true
  | _ => false
def PV.scal : PV → Bool
  | .agg cs => cs.all scal1
  | .tup cs => cs.all scal1
  | p => scal1 p

/-! ### What an operation does, on what is known -/
def ev (T : Ty) (tm : Nat → PV) (ty : TypeId) : Operand → PV
  | .tmp t => tm t
  | .const v => cst (match T ty with | some ti => ti.em | none => []) v
  | .func f => .fn f []
  | .global _ => .any

/-- No place of the call's own stands in it. -/
def pur1 : PV → Bool
  | .bool _ | .int _ _ | .str _ | .nilf | .nil _ | .ro _ | .rop _ _ _ | .fn _ [] => true
  | _ => false
def Cells.pur : Cells → Bool
  | .ints _ _ => true
  | .rows _ rs => rs.all fun r => r.all pur1
  | .lp _ _ => false
def frz1 (H : Nat → Option Blk) (v : PV) (K : PV → List Nat → Prop) : Prop :=
  match v with
  | .sl id off n tot => match H id with
    | some b => b.cs.len = tot ∧ K (.ro (if off = 0 ∧ n = tot then b.cs else b.cs.sub off n)) [id]
    | none => False
  | .nil cs => K (.ro cs) []
  | .ptr id i j tot => match H id with
    | some b => b.cs.len = tot ∧ b.cs.pur = true ∧ K (.rop b.cs i j) [id]
    | none => False
  | .opt _ _ => False
  | .agg _ => False
  | .tup _ => False
  | .asl _ _ _ => False
  | .yld _ => False
  | .old _ _ => False
  | .oldp _ _ _ _ => False
  | .fn _ (_ :: _) => False
  | v => K v []
def frzL (H : Nat → Option Blk) : List PV → (List PV → List Nat → Prop) → Prop
  | [], K => K [] []
  | v :: vs, K => frz1 H v fun p i => frzL H vs fun ps is => K (p :: ps) (i ++ is)
def frz (H : Nat → Option Blk) (v : PV) (K : PV → List Nat → Prop) : Prop :=
  match v with
  | .agg cs => frzL H cs fun l is => K (.agg l) is
  | .fn f caps => frzL H caps fun l is => K (.fn f l) is
  | v => frz1 H v K
def frzA (H : Nat → Option Blk) : List PV → (List PV → List Nat → Prop) → Prop
  | [], K => K [] []
  | v :: vs, K => frz H v fun p i => frzA H vs fun ps is => K (p :: ps) (i ++ is)

/-- Values that go into the cells of a row: what the call owned moves there. -/
def mvL : (Nat → Option Blk) → List PV → (List PV → Eff → Prop) → Prop
  | _, [], K => K [] []
  | H, v :: vs, K => match v with
    | .sl id off n tot => off = 0 ∧ n = tot ∧ (match H id with
      | some b => b.cs.len = tot ∧ mvL (put H id none) vs fun ps e => K (.ro b.cs :: ps) ((id, none) :: e)
      | none => False)
    | .nil cs => mvL H vs fun ps e => K (.ro cs :: ps) e
    | .ptr _ _ _ _ => False
    | .opt _ _ => False
    | .any => False
    | .agg _ => False
    | .tup _ => False
    | .asl _ _ _ => False
    | .yld _ => False
    | .old _ _ => False
    | .oldp _ _ _ _ => False
    | .fn f (q :: qs) => (q :: qs).all pur1 = true ∧ mvL H vs fun ps e => K (.fn f (q :: qs) :: ps) e
    | v => mvL H vs fun ps e => K (v :: ps) e

/-- The cells of a zero value, as they stand in a row. -/
def zp : List PV → Option (List PV)
  | [] => some []
  | p :: r => match p, zp r with
    | .int k n, some r => some (.int k n :: r)
    | .bool b, some r => some (.bool b :: r)
    | .str b, some r => some (.str b :: r)
    | .nilf, some r => some (.nilf :: r)
    | .nil cs, some r => some (.ro cs :: r)
    | _, _ => none

def argsP (ρ : TypeId → Operand → PV) : List Operand → List TypeId → List PV
  | [], _ => []
  | x :: xs, [] => ρ 0 x :: argsP ρ xs []
  | x :: xs, t :: ts => ρ t x :: argsP ρ xs ts

def idx (x : PV) (K : Int → Prop) : Prop := match x with | .int _ i => K i | _ => False

/-- 'build': the parts into a list of cells. 'pl': where a part stands and how many cells it takes. -/
def fillP (pl : Nat → Option (Nat × Nat × TypeId)) (ρ : TypeId → Operand → PV) : List PV → List (Nat × Operand) → (List PV → Prop) → Prop
  | cells, [], K => K cells
  | cells, (i, x) :: r, K => match pl i with
    | some (off, size, t) => match cellsOf (ρ t x) with
      | some vs => vs.length = size ∧ off + size ≤ cells.length ∧ fillP pl ρ (cells.take off ++ vs ++ cells.drop (off + size)) r K
      | none => False
    | none => False

def toInts (k : IntKind) : List PV → Option (List Int)
  | [] => some []
  | .int k' n :: r => if k' = k then (toInts k r).map (n :: ·) else none
  | _ => none
def chunks (w : Nat) : Nat → List PV → List (List PV)
  | 0, _ => []
  | n + 1, l => l.take w :: chunks w n (l.drop w)
/-- n elements of a type out of their cells. -/
def mkC (ti : TI) (n : Nat) (cells : List PV) : Option Cells :=
  match ti.k with
  | .int k => (toInts k cells).map (.ints k)
  | _ => some (.rows ti.sz (chunks ti.sz n cells))

def ldP (ti : TI) (H : Nat → Option Blk) (p : PV) (K : PV → Prop) : Prop :=
  match p with
  | .ptr id i j tot => match H id with
    | some b => b.cs.len = tot ∧ ldC ti b.cs i j K
    | none => False
  | .rop cs i j => ldC ti cs i j K
  | _ => False
def live (H : Nat → Option Blk) (id tot : Nat) : Prop := match H id with | some b => b.cs.len = tot | none => False
def fldP (H : Nat → Option Blk) (off : Nat) (p : PV) (K : PV → Prop) : Prop :=
  match p with
  | .ptr id i j tot => live H id tot ∧ K (.ptr id i (j + off) tot)
  | .rop cs i j => K (.rop cs i (j + off))
  | _ => False
def ixS (H : Nat → Option Blk) (te : TI) (i : Int) (p : PV) (K : PV → Prop) : Prop :=
  match p with
  | .ro cs => 0 ≤ i ∧ i < cs.len ∧ cs.w = te.sz ∧ K (.rop cs i.toNat 0)
  | .sl id off m tot => (match H id with
    | some b => b.cs.len = tot ∧ b.cs.w = te.sz ∧ 0 ≤ i ∧ i < m ∧ K (.ptr id (off + i.toNat) 0 tot)
    | none => False)
  | .asl id j m => (match H id with
    | some b => b.cs.len = 1 ∧ 0 ≤ i ∧ i < m ∧ K (.ptr id 0 (j + i.toNat * te.sz) 1)
    | none => False)
  | _ => False
def ixA (H : Nat → Option Blk) (m : Nat) (te : TI) (i : Int) (p : PV) (K : PV → Prop) : Prop :=
  match p with
  | .ptr id a j tot => live H id tot ∧ 0 ≤ i ∧ i < m ∧ K (.ptr id a (j + i.toNat * te.sz) tot)
  | .rop cs a j => 0 ≤ i ∧ i < m ∧ K (.rop cs a (j + i.toNat * te.sz))
  | _ => False

def oidx (ρ : TypeId → Operand → PV) (x : Option Operand) (K : Option Int → Prop) : Prop := match x with
  | none => K none
  | some x => idx (ρ 0 x) fun i => K (some i)
def slP (H : Nat → Option Blk) (te : TI) (lo hi : Option Int) (p : PV) (K : PV → Prop) : Prop :=
  match p with
  | .ro cs => 0 ≤ lo.getD 0 ∧ lo.getD 0 ≤ hi.getD cs.len ∧ hi.getD cs.len ≤ cs.len ∧ cs.w = te.sz ∧ K (.ro (cs.sub (lo.getD 0).toNat ((hi.getD cs.len).toNat - (lo.getD 0).toNat)))
  | .nil cs => lo.getD 0 = 0 ∧ hi.getD 0 = 0 ∧ K (.nil cs)
  | .sl id off m tot => (match H id with
    | some b => b.cs.len = tot ∧ b.cs.w = te.sz ∧ 0 ≤ lo.getD 0 ∧ lo.getD 0 ≤ hi.getD m ∧ hi.getD m ≤ m ∧ K (.sl id (off + (lo.getD 0).toNat) ((hi.getD m).toNat - (lo.getD 0).toNat) tot)
    | none => False)
  | _ => False
/-- 'a[:h]' of an array in a box -/
def slA (H : Nat → Option Blk) (m : Nat) (h : Int) (p : PV) (K : PV → Prop) : Prop :=
  match p with
  | .ptr id i j tot => (match H id with
    | some b => b.box = true ∧ b.cs.len = 1 ∧ tot = 1 ∧ i = 0 ∧ 0 ≤ h ∧ h ≤ m ∧ K (.asl id j h.toNat)
    | none => False)
  | _ => False
/-- 's[:0:0]' -/
def sl0 (H : Nat → Option Blk) (p : PV) (K : PV → Prop) : Prop :=
  match p with
  | .ro cs => K (.nil (cs.sub 0 0))
  | .nil cs => K (.nil cs)
  | .sl id _ _ _ => (match H id with
    | some b => K (.nil (b.cs.sub 0 0))
    | none => False)
  | _ => False

def apS (H : Nat → Option Blk) (n : Nat) (e : TypeId) (te : TI) (s x : PV) (K : PV → Eff → Prop) : Prop :=
  match s with
  | .sl id off m tot => off = 0 ∧ m = tot ∧ (match H id with
    | none => False
    | some b => b.cs.len = tot ∧ b.box = false ∧ b.e = e ∧ b.cs.w = te.sz ∧ rdS H x fun cs => (tot + cs.len) * te.bytes ≤ 140737488355328 ∧ tot + cs.len ≤ 140737488355328 ∧
      apC b.cs cs fun cs' => K (.sl id 0 (tot + cs.len) (tot + cs.len)) [(id, some { b with cs := cs' })])
  | .nil _ => rdS H x fun cs => cs.w = te.sz ∧ cs.len * te.bytes ≤ 140737488355328 ∧ cs.len ≤ 140737488355328 ∧ K (.sl n 0 cs.len cs.len) [(n, some ⟨cs, false, e⟩)]
  | _ => False

/-- 'copy' into a row of numbers -/
def cpC (a b : Cells) (off m : Nat) (K : Nat → Cells → Prop) : Prop :=
  match a, b with
  | .ints k xs, .ints k' ys => k' = k ∧ K (min m ys.length) (.ints k (xs.take off ++ (ys.take m ++ xs.drop (off + min m ys.length))))
  | _, _ => False
def cpS (H : Nat → Option Blk) (te : TI) (d s : PV) (K : PV → Eff → Prop) : Prop :=
  match d with
  | .sl id off m tot => (match H id with
    | none => False
    | some b => b.cs.len = tot ∧ off + m ≤ tot ∧ b.box = false ∧ te.sz = 1 ∧ rdS H s fun cs => cpC b.cs cs off m fun k cs' => K (.int .i64 k) [(id, some { b with cs := cs' })])
  | _ => False

/-- the greatest (or the least) of numbers -/
def mxF (mx : Bool) (k : IntKind) : Int → List PV → (Int → Prop) → Prop
  | a, [], K => K a
  | a, p :: r, K => match p with
    | .int k' b => k' = k ∧ (if mx then mxF mx k (if b > a then b else a) r K else mxF mx k (if b < a then b else a) r K)
    | _ => False

def bltn (T : Ty) (ρ : TypeId → Operand → PV) (H : Nat → Option Blk) (n : Nat) (b : Builtin) (args : List Operand) (ts : List TypeId) (K : PV → Eff → Prop) : Prop :=
  match b, args, ts with
  | .len, [x], [t] => match T t with
    | some ti => (match ti.k, ρ t x with
      | .slice _, .ro cs => K (.int .i64 cs.len) []
      | .slice _, .nil cs => K (.int .i64 0) []
      | .slice _, .sl _ _ n _ => K (.int .i64 n) []
      | .slice _, .asl _ _ n => K (.int .i64 n) []
      | .str, .str s => K (.int .i64 s.size) []
      | _, _ => False)
    | none => False
  | .min, x :: xs, t :: ts => match ρ t x with
    | .int k a => mxF false k a (argsP ρ xs ts) fun v => K (.int k v) []
    | _ => False
  | .max, x :: xs, t :: ts => match ρ t x with
    | .int k a => mxF true k a (argsP ρ xs ts) fun v => K (.int k v) []
    | _ => False
  | .append, [s, x], [t, u] => u = t ∧ match T t with
    | none => False
    | some tt => match tt.k with
      | .slice e => match T e with
        | none => False
        | some te => 0 < te.sz ∧ apS H n e te (ρ t s) (ρ u x) K
      | _ => False
  | .copy, [d, s], [t, u] => match T t with
    | none => False
    | some tt => match tt.k with
      | .slice e => match T e with
        | none => False
        | some te => cpS H te (ρ t d) (ρ u s) K
      | _ => False
  | _, _, _ => False

def id1 : PV → List Nat
  | .sl id _ _ _ => [id]
  | .ptr id _ _ _ => [id]
  | .asl id _ _ => [id]
  | .yld id => [id]
  | _ => []
def PV.ids : PV → List Nat
  | .agg cs => cs.flatMap id1
  | .fn _ caps => caps.flatMap id1
  | .sl id _ _ _ => [id]
  | .ptr id _ _ _ => [id]
  | .asl id _ _ => [id]
  | .yld id => [id]
  | _ => []
def inL1 (L : Nat → Bool) : PV → Bool
  | .sl id _ _ _ => L id
  | .ptr id _ _ _ => L id
  | .asl id _ _ => L id
  | .yld id => L id
  | .fn _ (_ :: _) | .agg _ | .tup _ | .opt _ _ => false
  | _ => true
def PV.inL (L : Nat → Bool) : PV → Bool
  | .fn _ caps => caps.all (inL1 L)
  | .agg cs => cs.all (inL1 L)
  | .tup cs => cs.all (inL1 L)
  | p => inL1 L p
def Cells.inL (L : Nat → Bool) : Cells → Bool
  | .ints _ _ => true
  | .rows _ rs => rs.all fun r => r.all (inL1 L)
  | .lp _ ps => ps.all (PV.inL L)
def Blk.inL (L : Nat → Bool) (b : Blk) : Bool := !b.box || b.cs.inL L
/-- A call that gets places of the caller's own, or gives own places back. -/
def hcl (P : Program) (H : Nat → Option Blk) (n : Nat) (g : FuncId) (args : List PV) (K : PV → Eff → Prop) : Prop :=
  ∃ Hr r e, HCall P g args Hr n r e ∧ (∀ p ∈ Hr, p.1 ∈ args.flatMap PV.ids ∧ p.1 < n ∧ H p.1 = p.2 ∧ ∀ b, p.2 = some b → b.inL (fun i => (Hr.map (·.1)).contains i) = true) ∧
    args.all (PV.inL fun i => (Hr.map (·.1)).contains i) = true ∧ (∀ p ∈ e, p.1 ∈ Hr.map (·.1) ∨ (n ≤ p.1 ∧ p.1 < n + 8)) ∧ K r e

def opv (P : Program) (T : Ty) (o : Oper) (ρ : TypeId → Operand → PV) (H : Nat → Option Blk) (n : Nat) (K : PV → Eff → Prop) : Prop :=
  match o.op with
  | .move x | .assign x => K (ρ o.type x) []
  | .pick c x y => match ρ 0 c with
    | .bool t => (t = true → K (ρ o.type x) []) ∧ (t = false → K (ρ o.type y) [])
    | _ => False
  | .box e x => match cellsOf (ρ e x) with
    | some vs => vs.all PV.one = true ∧ K (.ptr n 0 0 1) [(n, some ⟨.rows vs.length [vs], true, e⟩)]
    | none => False
  | .alloc e => match T e with
    | some ti => match cellsOf ti.zero with
      | some vs => vs.all PV.one = true ∧ K (.ptr n 0 0 1) [(n, some ⟨.rows vs.length [vs], true, e⟩)]
      | none => ti.zero = .any ∧ K (.ptr n 0 0 1) [(n, some ⟨.rows 1 [[.any]], true, e⟩)]
    | none => False
  | .load t x => match T t with
    | some ti => ldP ti H (ρ 0 x) fun v => K v []
    | none => False
  | .store t x y => match T t with
    | some ti => match ρ 0 x with
      | .ptr id i j tot => match H id with
        | some b => b.cs.len = tot ∧ (match cellsOf (ρ t y) with
          | some vs => vs.length = ti.sz ∧ vs.all PV.one = true ∧ (b.box = true → stC b.cs i j vs fun cs' => K .any [(id, some { b with cs := cs' })]) ∧
            (b.box = false → mvL H vs fun vs' e => (∀ p ∈ e, p.1 ≠ id) ∧ stC b.cs i j vs' fun cs' => K .any (e ++ [(id, some { b with cs := cs' })]))
          | none => False)
        | none => False
      | _ => False
    | none => False
  | .nilCheck x => match ρ 0 x with
    | .ptr id i j tot => live H id tot ∧ K (.ptr id i j tot) []
    | .rop cs i j => K (.rop cs i j) []
    | .fn f caps => K (.fn f caps) []
    | _ => False
  | .fieldAddr t x f => match T t with
    | some ti => match ti.k with
      | .struct fs => match fs[f]? with
        | some (ft, off) => (match T ft with | some tf => 0 < tf.sz | none => False) ∧ fldP H off (ρ 0 x) fun v => K v []
        | none => False
      | _ => False
    | none => False
  | .indexAddr t x ix => match T t with
    | some ti => match ti.k with
      | .slice e => match T e with
        | none => False
        | some te => idx (ρ 0 ix) fun i => ixS H te i (ρ t x) fun v => K v []
      | .arr m e => match T e with
        | none => False
        | some te => idx (ρ 0 ix) fun i => ixA H m te i (ρ 0 x) fun v => K v []
      | _ => False
    | none => False
  | .binOp op t x y u => bin T t op (ρ t x) (ρ u y) fun v => K v []
  | .unOp op t x => match op, ρ t x with
    | .not, .bool b => K (.bool (!b)) []
    | .neg, .int k a => K (.int k (k.wrap (0 - a))) []
    | _, _ => False
  | .convert s d x => match T d, T s with
    | some td, some ts => match td.k with
      | .int k => match ρ s x with
        | .int _ a => K (.int k (k.wrap a)) []
        | _ => False
      | .str => match ts.k with
        | .slice e => match T e with
          | some te => te.k = .int .u8 ∧ rdS H (ρ s x) fun cs => match cs with
            | .ints .u8 xs => K (.str (xs.foldl (fun r n => r.push (UInt8.ofNat n.toNat)) ByteArray.empty)) []
            | .rows _ [] => K (.str ByteArray.empty) []
            | _ => False
          | none => False
        | _ => False
      | _ => False
    | _, _ => False
  | .makeFunc fn first caps => match fn with
    | .func f => first = #[] ∧ K (.fn f (argsP ρ caps.toList [])) []
    | _ => False
  | .extract x i => match ρ 0 x with
    | .tup vs => match vs[i]? with
      | some v => K v []
      | none => False
    | _ => False
  | .build t parts => match T t with
    | some ti => match ti.zero with
      | .agg z => match ti.k with
        | .struct fs => fillP (fun i => match fs[i]? with | some (ft, off) => (match T ft with | some tf => some (off, tf.sz, ft) | none => none) | none => none) ρ z parts.toList fun cells => K (.agg cells) []
        | .arr m e => match T e with
          | some te => fillP (fun i => some (i * te.sz, te.sz, e)) ρ z parts.toList fun cells => K (.agg cells) []
          | none => False
        | _ => False
      | _ => False
    | none => False
  | .buildSlice t len parts => match T t with
    | some tt => match tt.k with
      | .slice e => match T e with
        | some te => 0 ≤ len ∧ 0 < te.sz ∧ len * te.sz ≤ 16777216 ∧ (match cellsOf te.zero with
          | some z => fillP (fun i => some (i * te.sz, te.sz, e)) ρ ((List.replicate len z).flatten) parts.toList fun cells =>
            cells.all PV.one = true ∧ mvL H cells fun cells' ef => match mkC te len cells' with
              | some cs => K (.ro cs) ef ∨ K (.sl n 0 len len) (ef ++ [(n, some ⟨cs, false, e⟩)])
              | none => False
          | none => False)
        | none => False
      | _ => False
    | none => False
  | .makeSlice t l cp => match T t with
    | some tt => match tt.k with
      | .slice e => match T e with
        | some te => idx (ρ 0 l) fun a => idx (ρ 0 cp) fun b => b = a ∧ 0 ≤ a ∧ a * te.bytes ≤ 140737488355328 ∧ a ≤ 140737488355328 ∧ 0 < te.sz ∧ (match cellsOf te.zero with
          | some z => z.all PV.one = true ∧ (match te.k, z with
            | .int k, [.int k' 0] => k' = k ∧ (K (.ro (.ints k (List.replicate a.toNat 0))) [] ∨ K (.sl n 0 a.toNat a.toNat) [(n, some ⟨.ints k (List.replicate a.toNat 0), false, e⟩)])
            | .int _, _ => False
            | _, z => match zp z with
              | some z' => K (.ro (.rows te.sz (List.replicate a.toNat z'))) [] ∨ K (.sl n 0 a.toNat a.toNat) [(n, some ⟨.rows te.sz (List.replicate a.toNat z'), false, e⟩)]
              | none => False)
          | none => False)
        | none => False
      | _ => False
    | none => False
  | .slice t x lo hi mx => match T t with
    | some tt => match tt.k with
      | .slice e => match T e with
        | some te => (match mx with
          | some m => lo = none ∧ (match hi with | some h => ρ 0 h = .int .i64 0 | none => False) ∧ ρ 0 m = .int .i64 0 ∧ sl0 H (ρ t x) fun v => K v []
          | none => oidx ρ lo fun l => oidx ρ hi fun h => slP H te l h (ρ t x) fun v => K v [])
        | none => False
      | .arr m e => mx = none ∧ lo = none ∧ (T e).isSome = true ∧ oidx ρ hi fun h => slA H m (h.getD m) (ρ 0 x) fun v => K v []
      | _ => False
    | none => False
  | .index t x ix => match T t with
    | some ti => match ti.k with
      | .arr m e => match T e with
        | some te => idx (ρ 0 ix) fun i => match ρ t x with
          | .agg cs => 0 ≤ i ∧ i < m ∧ (if te.k.agg then i.toNat * te.sz + te.sz ≤ cs.length ∧ K (.agg ((cs.drop (i.toNat * te.sz)).take te.sz)) []
              else ∃ v, cs[i.toNat * te.sz]? = some v ∧ K v [])
          | _ => False
        | none => False
      | _ => False
    | none => False
  | .call c => match c.callee with
    | .builtin b => bltn T ρ H n b c.args.toList c.argTypes.toList K
    | .value f => match ρ 0 f with
      | .fn g caps => (frzA H (argsP ρ c.args.toList c.argTypes.toList ++ caps) fun ps is => ∃ r, PCall P g ps r ∧ (if r.scal then K r [] else K r (is.map fun i => (i, none)))) ∨ hcl P H n g (argsP ρ c.args.toList c.argTypes.toList ++ caps) K
      | _ => False
    | _ => False
  | _ => False
end Go.Pv


namespace Go.Pv
set_option linter.unusedVariables false
set_option linter.unusedSimpArgs false
open Go Go.RowKit

def Does (P : Program) (o : Oper) (a : Act) (c : Cx) (B : Nat) (K : PV → Eff → Prop) : Prop :=
  ∀ (next : Act → World → Prop) (Q : Exit → Act → World → Prop), (∀ pv eff v c', K pv eff → Rep c' false pv v → Post c c' B eff → next (a.put o.dst v) c'.w) → o.wp P a c.w next Q

variable {P : Program} {T : Ty} {o : Oper} {a : Act} {c : Cx} {B n : Nat} {tm : Nat → PV} {K : PV → Eff → Prop}

theorem Post.refl (hok : HeapOk c B) : Post c c B [] := ⟨.refl c, hok, rfl, fun id => by simp, Below.refl _ _, fun _ _ h => h, fun b h => ⟨h, rfl, fun h => h⟩, fun _ h => .inl h⟩
theorem does_val {v : Value} {pv : PV} (hr : (execOp a.eval o).run P c.w = .ok (.value v) c.w) (hrep : Rep c false pv v) (hk : K pv []) (hok : HeapOk c B) : Does P o a c B K := fun next Q h => by
  unfold Oper.wp
  rw [hr]
  exact h pv [] v c hk hrep (.refl hok)
theorem does_sem {v : Value} {pv : PV} {s : Sem Value} (he : execOp a.eval o = (do pure (.value (← s)))) (hr : s.run P c.w = .ok v c.w) (hrep : Rep c false pv v) (hk : K pv []) (hok : HeapOk c B) : Does P o a c B K :=
  does_val (by rw [he]; simp [hr]) hrep hk hok

theorem cst1_ok (em : Option Cells) (h : ∀ cs, em = some cs → cs.len = 0) (v : Value) (q : Bool) : Rep c q (cst1 em v) v := by
  unfold cst1
  split
  · refine .nil q _ none ?_
    cases em with
    | none => rfl
    | some cs => exact h cs rfl
  · exact .int ..
  · exact .bool ..
  · exact .str ..
  · exact .nilf _
  · exact .any ..
theorem cstL_ok {q : Bool} : ∀ (em : List (Option Cells)) (h : ∀ cs, some cs ∈ em → cs.len = 0) (vs : List Value), (cstL em vs).length = vs.length ∧ ∀ (i : Nat) p v, (cstL em vs)[i]? = some p → vs[i]? = some v → Rep c q p v
  | [], _, [] => by simp [cstL]
  | _ :: _, _, [] => by simp [cstL]
  | [], h, v :: vs => by
    obtain ⟨h1, h2⟩ := cstL_ok (q := q) [] h vs
    refine ⟨by simp [cstL, h1], fun i p u hp hu => ?_⟩
    cases i with
    | zero => simp [cstL] at hp hu; subst hp; subst hu; exact cst1_ok none (fun _ h => by cases h) _ _
    | succ i => simp [cstL] at hp hu; exact h2 i p u hp hu
  | e :: es, h, v :: vs => by
    obtain ⟨h1, h2⟩ := cstL_ok (q := q) es (fun cs hc => h cs (List.mem_cons_of_mem _ hc)) vs
    refine ⟨by simp [cstL, h1], fun i p u hp hu => ?_⟩
    cases i with
    | zero => simp [cstL] at hp hu; subst hp; subst hu; exact cst1_ok e (fun cs hc => h cs (by simp [hc])) _ _
    | succ i => simp [cstL] at hp hu; exact h2 i p u hp hu
theorem cst_ok (em : List (Option Cells)) (h : ∀ cs, some cs ∈ em → cs.len = 0) (v : Value) (q : Bool) : Rep c q (cst em v) v := by
  unfold cst
  split
  · rename_i cs
    obtain ⟨h1, h2⟩ := cstL_ok (c := c) (q := q) em h cs.toList
    exact .agg q _ _ (by simpa using h1) (fun i p v hp hv => h2 i p v hp (by simpa using hv))
  · refine cst1_ok _ (fun cs hc => h cs ?_) _ _
    cases em with
    | nil => simp at hc
    | cons e es => simp at hc; simp [hc]

theorem ev_ok (hT : TyOk P T) (htm : ∀ t, Rep c false (tm t) (a.tmps.getD t undef)) (t : TypeId) (x : Operand) : Rep c false (ev T tm t x) (a.eval x) := by
  cases x with
  | tmp i => exact htm i
  | const v =>
    refine cst_ok _ ?_ v false
    intro cs hcs
    cases ht : T t with
    | none => simp [ht] at hcs
    | some ti => simp [ht] at hcs; exact hT.em t ti ht cs hcs
  | global g => exact .any ..
  | func f => exact .fn false f [] #[] rfl (fun i q v h => by simp at h)

/-! ### Arithmetic -/
theorem wpk {k : IntKind} {a b : Int} (h : a = b) : Value.int k a = .int k b := by rw [h]
theorem bytes_eq (a b : ByteArray) : (a.toList == b.toList) = decide (a = b) := by
  by_cases h : a = b
  · subst h; simp
  · rw [decide_eq_false h, beq_eq_false_iff_ne]
    intro e
    rw [ByteArray.toList_eq, ByteArray.toList_eq] at e
    have e2 := congrArg List.toArray e
    simp only [Array.toArray_toList] at e2
    exact h (congrArg ByteArray.mk e2)

theorem equalIn_bool {t : TypeId} (d : Nat) (hu : P.underlying t = some .bool) (x y : Bool) (w : World) : (Op.equalIn (d + 1) t (.bool x) (.bool y)).run P w = .ok (x == y) w := by
  unfold Op.equalIn
  simp [run_underlying hu]
theorem equal_bool {t : TypeId} (hu : P.underlying t = some .bool) (x y : Bool) (w : World) : (Op.equal t (.bool x) (.bool y)).run P w = .ok (x == y) w := equalIn_bool 9999 hu x y w
theorem eq1_plain {ti : TI} {x y : PV} {r : Bool} (h : eq1 ti.k x y = some r) : (match ti.k with
    | .int _ => true
    | .bool => true
    | _ => false) = true := by
  unfold eq1 at h
  split at h
  · split at h
    · rename_i hk; rw [hk]
    · cases h
  · split at h
    · rename_i hk; rw [hk]
    · cases h
  · cases h
theorem eqF_plain : ∀ {fs : List (TypeId × Nat)} {a b : List PV} {r : Bool}, eqF T fs a b = some r → plainF T fs = true
  | [], _, _, _, _ => rfl
  | p :: fs, a, b, r, h => by
    unfold eqF at h
    split at h
    · rename_i ti x y ht _ _
      split at h
      · rename_i r1 h1
        split at h
        · rename_i q hq
          have h2 := eqF_plain hq
          unfold plainF at h2 ⊢
          rw [List.all_cons, h2, Bool.and_true, ht]
          exact eq1_plain h1
        · cases h
      · cases h
    · cases h
theorem eqF_run (hT : TyOk P T) {q : Bool} {xs ys : Array Value} {a b : List PV} (ha : List.length a = xs.size) (hb : List.length b = ys.size) (hra : ∀ (i : Nat) p v, a[i]? = some p → xs[i]? = some v → Rep c q p v) (hrb : ∀ (i : Nat) p v, b[i]? = some p → ys[i]? = some v → Rep c q p v) (d : Nat) (w : World) :
    ∀ (F : List Field) (r : Bool), (∀ f ∈ F, f.name ≠ "_") → eqF T (F.map fun f => (f.type, f.offset)) a b = some r → (Op.eqFields (d + 1) xs ys F).run P w = .ok r w
  | [], r, _, h => by
    have h : some true = some r := h
    cases h
    simp [Op.eqFields]
  | f :: F, r, hn, h => by
    simp only [List.map_cons, eqF] at h
    split at h
    · rename_i ti x y ht hx hy
      split at h
      · rename_i r1 h1
        split at h
        · rename_i q2 hq
          cases h
          have hi : f.offset < xs.size := by rw [← ha]; exact (List.getElem?_eq_some_iff.1 hx).1
          have hj : f.offset < ys.size := by rw [← hb]; exact (List.getElem?_eq_some_iff.1 hy).1
          obtain ⟨vx, ex⟩ : ∃ v, xs[f.offset]? = some v := ⟨_, Array.getElem?_eq_getElem hi⟩
          obtain ⟨vy, ey⟩ : ∃ v, ys[f.offset]? = some v := ⟨_, Array.getElem?_eq_getElem hj⟩
          have rx := hra _ _ _ hx ex
          have ry := hrb _ _ _ hy ey
          have ih := eqF_run hT ha hb hra hrb d w F q2 (fun g hg => hn g (by simp [hg])) hq
          have key : P.plainKey f.type = true ∧ (Op.equalIn (d + 1) f.type vx vy).run P w = .ok r1 w := by
            unfold eq1 at h1
            split at h1
            · rename_i j m j' m'
              split at h1
              · rename_i k hk
                obtain ⟨hu, _⟩ := hT.int _ _ _ ht hk
                split at h1
                · rename_i hj
                  subst hj
                  cases h1
                  have e1 : vx = .int j' m := by cases rx; rfl
                  have e2 : vy = .int j' m' := by cases ry; rfl
                  rw [e1, e2]
                  refine ⟨by simp [Program.plainKey, hu], ?_⟩
                  rw [run_equalIn_int w d f.type j' k m m' hu]
                  rfl
                · cases h1
              · cases h1
            · rename_i m m'
              split at h1
              · rename_i hk
                obtain ⟨hu, _⟩ := hT.bool _ _ ht hk
                cases h1
                have e1 : vx = .bool m := by cases rx; rfl
                have e2 : vy = .bool m' := by cases ry; rfl
                rw [e1, e2]
                exact ⟨by simp [Program.plainKey, hu], run_equalIn_bool w d f.type m m' hu⟩
              · cases h1
            · cases h1
          unfold Op.eqFields
          rw [if_pos (hn f (by simp)), Sem.run_bind, run_part_plain w key.1 ex, Result.andThen_ok, Sem.run_bind, run_part_plain w key.1 ey, Result.andThen_ok, Sem.run_bind, key.2, Result.andThen_ok]
          cases r1 with
          | false => simp
          | true => simpa using ih
        · cases h
      · cases h
    · cases h
theorem bin_ok (hT : TyOk P T) {op : BinOp} {xt : TypeId} {xo yo : Operand} {x y : PV} {u v : Value} {K : PV → Prop} (hx : Rep c false x u) (hy : Rep c false y v) (h : bin T xt op x y K) :
    ∃ r pv, (do eqGuard op xt xo yo u v; binOp op xt u v : Sem Value).run P c.w = .ok r c.w ∧ Rep c false pv r ∧ K pv := by
  unfold bin at h
  split at h
  · rename_i k i k' j
    cases hx; cases hy
    have hg : (eqGuard op xt xo yo (.int k i) (.int k' j)).run P c.w = .ok () c.w := by
      unfold eqGuard
      cases op <;> rfl
    rw [Sem.run_bind, hg, Result.andThen_ok]
    split at h
    · unfold sh2 at h
      refine ⟨_, _, ?_, .int _ _ _, h.2⟩
      simp [binOp, Op.shift, Int.not_lt.2 h.1]
    · unfold sh2 at h
      refine ⟨_, _, ?_, .int _ _ _, h.2⟩
      simp [binOp, Op.shift, Int.not_lt.2 h.1]
    · rename_i h1 h2
      obtain ⟨rfl, h⟩ := h
      cases op <;> simp only [ops2] at h
      case add => exact ⟨_, _, by simp [binOp, Op.intArith], .int .., h⟩
      case sub => exact ⟨_, _, by simp [binOp, Op.intArith], .int .., h⟩
      case mul => exact ⟨_, _, by simp [binOp, Op.intArith], .int .., h⟩
      case quo => exact ⟨_, _, by simp [binOp, Op.intDiv, h.1], .int .., h.2⟩
      case rem => exact ⟨_, _, by simp [binOp, Op.intDiv, h.1], .int .., h.2⟩
      case and => exact ⟨_, _, by simp [binOp, Op.intBits], .int .., h⟩
      case or => exact ⟨_, _, by simp [binOp, Op.intBits], .int .., h⟩
      case xor => exact ⟨_, _, by simp [binOp, Op.intBits], .int .., h⟩
      case eql => exact ⟨_, _, by simp [binOp, Op.intCmp]; rfl, .bool .., h⟩
      case neq => exact ⟨_, _, by simp [binOp, Op.intCmp, bne]; rfl, .bool .., h⟩
      case lss => exact ⟨_, _, by simp [binOp, Op.intCmp], .bool .., h⟩
      case leq => exact ⟨_, _, by simp [binOp, Op.intCmp], .bool .., h⟩
      case gtr => exact ⟨_, _, by simp [binOp, Op.intCmp], .bool .., h⟩
      case geq => exact ⟨_, _, by simp [binOp, Op.intCmp], .bool .., h⟩
  · rename_i s t
    cases hx; cases hy
    split at h
    · rename_i ti hti
      obtain ⟨hk, h⟩ := h
      obtain ⟨hu, _⟩ := hT.bool xt ti hti hk
      have hg : (eqGuard op xt xo yo (.bool s) (.bool t)).run P c.w = .ok () c.w := by
        unfold eqGuard
        cases op <;> rfl
      rw [Sem.run_bind, hg, Result.andThen_ok]
      split at h
      · refine ⟨_, _, ?_, .bool .., h⟩
        show (do pure (.bool (← Op.equal xt (.bool s) (.bool t))) : Sem Value).run P c.w = _
        rw [Sem.run_bind, equal_bool hu]; rfl
      · refine ⟨_, _, ?_, .bool .., h⟩
        show (do pure (.bool (!(← Op.equal xt (.bool s) (.bool t)))) : Sem Value).run P c.w = _
        rw [Sem.run_bind, equal_bool hu]; rfl
      · exact h.elim
    · exact h.elim
  · rename_i s t
    cases hx; cases hy
    have hg : (eqGuard op xt xo yo (.string s) (.string t)).run P c.w = .ok () c.w := by
      unfold eqGuard
      cases op <;> rfl
    rw [Sem.run_bind, hg, Result.andThen_ok]
    split at h
    · exact ⟨_, _, by simp [binOp, Op.stringOp, bytes_eq], .bool .., h⟩
    · exact ⟨_, _, by simp [binOp, Op.stringOp, bytes_eq], .bool .., h⟩
    · refine ⟨_, _, ?_, .str .., h.2⟩
      have := h.1
      have hm : ¬ (IntKind.i64.max < ((s.size + t.size : Nat) : Int)) := by
        show ¬ (9223372036854775807 < _)
        omega
      simp only [binOp, Op.stringOp]
      rw [if_neg hm]
      rfl
    · exact h.elim
  · rename_i a b
    cases hx with
    | agg _ _ xs ha hra =>
    cases hy with
    | agg _ _ ys hb hrb =>
    split at h
    · rename_i ti hti
      split at h
      · rename_i fs hk
        split at h
        · rename_i r hr
          obtain ⟨F, hF, hm, hn, hs, hg⟩ := hT.cmp xt ti fs hti hk (eqF_plain hr)
          subst hm
          have hf : P.underlying xt = some (.struct (P.fieldsOf xt)) := by unfold Program.fieldsOf; rw [hF]
          have hff : P.fieldsOf xt = F := by unfold Program.fieldsOf; rw [hF]
          have hrun : (Op.equalIn 10000 xt (.agg xs) (.agg ys)).run P c.w = .ok r c.w := by
            rw [run_equalIn_struct c.w 9999 xt xs ys hf hs, hff]
            exact eqF_run hT ha hb hra hrb 9998 c.w F.toList r hn hr
          rw [Sem.run_bind, run_eqGuard_agg c.w op xt xo yo xs ys hg, Result.andThen_ok]
          split at h
          · exact ⟨_, _, by rw [run_eql_struct, hrun]; rfl, .bool .., h⟩
          · exact ⟨_, _, by rw [run_neq_struct, hrun]; rfl, .bool .., h⟩
          · exact h.elim
        · exact h.elim
      · exact h.elim
    · exact h.elim
  · exact h.elim

/-! ### Memory that is read -/
def At (c : Cx) (q : Bool) (cs : Cells) (b off : Nat) : Prop := ∀ i j, i < cs.len → j < cs.w → ∃ v, c.w.cell? ⟨b, off + (i * cs.w + j), none⟩ = some v ∧ Rep c q (cs.get i j) v ∧ v.oneCell' = true

theorem plain_of (hT : TyOk P T) {t : TypeId} {ti : TI} (ht : T t = some ti) (hk : ti.k.agg = false) : ∃ d, P.underlying t = some d ∧ aggD d = false ∧ ti.sz = 1 := by
  cases h : ti.k with
  | int k => exact ⟨_, (hT.int t ti k ht h).1, rfl, (hT.int t ti k ht h).2⟩
  | bool => exact ⟨_, (hT.bool t ti ht h).1, rfl, (hT.bool t ti ht h).2⟩
  | str => exact ⟨_, (hT.str t ti ht h).1, rfl, (hT.str t ti ht h).2⟩
  | slice e => exact ⟨_, (hT.slice t ti e ht h).1, rfl, (hT.slice t ti e ht h).2⟩
  | struct fs => simp [h, Tk.agg] at hk
  | arr m e => simp [h, Tk.agg] at hk
  | other => exact hT.other t ti ht h
theorem agg_of (hT : TyOk P T) {t : TypeId} {ti : TI} (ht : T t = some ti) (hk : ti.k.agg = true) : ∃ d, P.underlying t = some d ∧ aggD d = true := by
  cases h : ti.k with
  | struct fs => obtain ⟨F, hF, _⟩ := hT.struct t ti fs ht h; exact ⟨_, hF, rfl⟩
  | arr m e => exact ⟨_, hT.arr t ti m e ht h, rfl⟩
  | _ => simp [h, Tk.agg] at hk
theorem isAgg_run {t : TypeId} {d : TypeDesc} (h : P.underlying t = some d) (w : World) : (isAgg t).run P w = .ok (aggD d) w := by
  cases d <;> simp [isAgg, run_underlying h, aggD]
theorem sizeOf_run (hT : TyOk P T) {t : TypeId} {ti : TI} (ht : T t = some ti) (w : World) : (sizeOf t).run P w = .ok ti.sz w := by
  obtain ⟨i, hi, hs, _⟩ := hT.info t ti ht
  simp [sizeOf, typeInfo, hi, hs]

theorem load_at (hT : TyOk P T) {t : TypeId} {ti : TI} (ht : T t = some ti) {q : Bool} {cs : Cells} {b off i j : Nat} {K : PV → Prop} (hat : At c q cs b off) (h : ldC ti cs i j K) :
    ∃ v pv, (Instr.loadAt t (.pointer (some ⟨b, off + (i * cs.w + j), none⟩))).run P c.w = .ok v c.w ∧ Rep c q pv v ∧ K pv := by
  unfold ldC at h
  split at h
  · rename_i hk
    obtain ⟨d, hd, hd'⟩ := agg_of hT ht hk
    split at h
    · rename_i w rs
      obtain ⟨h1, h2, h3, h4⟩ := h
      have hex : ∀ q', ∃ v, q' < ti.sz → c.w.cell? ⟨b, off + (i * w + (j + q')), none⟩ = some v ∧ Rep c q ((Cells.rows w rs).get i (j + q')) v := by
        intro q'
        by_cases hq : q' < ti.sz
        · obtain ⟨v, hv, hv', _⟩ := hat i (j + q') h1 (show j + q' < w by omega)
          exact ⟨v, fun _ => ⟨hv, hv'⟩⟩
        · exact ⟨undef, fun h => absurd h hq⟩
      let f : Nat → Value := fun q' => Classical.choose (hex q')
      have hf : ∀ q', q' < ti.sz → c.w.cell? ⟨b, off + (i * w + (j + q')), none⟩ = some (f q') ∧ Rep c q ((Cells.rows w rs).get i (j + q')) (f q') := fun q' => Classical.choose_spec (hex q')
      refine ⟨.agg ((List.range ti.sz).map f).toArray, _, ?_, .agg q _ _ ?_ ?_, h4⟩
      · have hl := run_loadCells (P := P) c.w ⟨b, off + (i * w + j), none⟩ ti.sz f (fun q' hq => by rw [Addr.add_lit, show off + (i * w + j) + q' = off + (i * w + (j + q')) by omega]; exact (hf q' hq).1)
        simp only [Instr.loadAt, Instr.sureAddr, loadVar, Sem.run_bind, Sem.run_pure, Result.andThen_ok, isAgg_run hd, hd', sizeOf_run hT ht, Cells.w, if_true, hl]
      · rw [List.length_take, List.length_drop]
        simp only [List.size_toArray, List.length_map, List.length_range]
        omega
      · intro m p v hp hv
        have hm : m < ti.sz := by
          rcases Nat.lt_or_ge m ti.sz with h | h
          · exact h
          · simp [h] at hv
        simp [hm] at hv
        subst hv
        have := (hf m hm).2
        simp only [Cells.get] at this
        rw [List.getElem?_take_of_lt hm, List.getElem?_drop] at hp
        rw [List.getD_eq_getElem?_getD, hp] at this
        exact this
    · exact h.elim
  · rename_i hk
    obtain ⟨d, hd, hd', _⟩ := plain_of hT ht (by simpa using hk)
    obtain ⟨h1, h2, h3⟩ := h
    obtain ⟨v, hc, hr, _⟩ := hat i j h1 h2
    refine ⟨v, _, ?_, hr, h3⟩
    simp only [Instr.loadAt, Instr.sureAddr, loadVar, Sem.run_bind, Sem.run_pure, Result.andThen_ok, isAgg_run hd, hd', Bool.false_eq_true, if_false]
    simp [load, Sem.run, hc]
end Go.Pv


namespace Go.Pv
set_option linter.unusedVariables false
set_option linter.unusedSimpArgs false
open Go Go.RowKit
variable {P : Program} {T : Ty} {o : Oper} {a : Act} {c : Cx} {B n : Nat} {tm : Nat → PV} {K : PV → Eff → Prop}

theorem Reps.at_ {q : Bool} {cs : Cells} {vs : List Value} {g : Nat} {w : World} (h : Reps c q cs vs) (hc : ∀ j u, vs[j]? = some u → c.w.cell? ⟨g, j, none⟩ = some u) : At c q cs g 0 := fun i j hi hj => by
  obtain ⟨v, hv, hr, h1⟩ := h.2 i j hi hj
  exact ⟨v, by rw [Nat.zero_add]; exact hc _ _ hv, hr, h1⟩
theorem row_cells {e size n : Nat} {V : Value} {xs : List Value} {g : Nat} (h : c.w.ownsRow B e size V n xs) (hg : blkOf V = some g) : ∀ j u, xs[j]? = some u → c.w.cell? ⟨g, j, none⟩ = some u := by
  rcases h.2 with ⟨rfl, _⟩ | ⟨g', cap, cur, rfl, hB, hh, hnc, hcm, hcs, htake⟩
  · simp [blkOf] at hg
  · simp [blkOf] at hg
    subst hg
    intro j u hu
    have := h.cells (g := g') rfl j u hu
    rwa [Addr.add_lit, Nat.zero_add] at this
theorem at_own (hok : HeapOk c B) {id : Nat} {blk : Blk} (hH : c.H id = some blk) {g : Nat} (hg : blkOf (c.loc id) = some g) : At c false blk.cs g 0 := by
  have h := (hok.ok id blk hH).2
  unfold BlkOk at h
  split at h
  · obtain ⟨g', vs, T, hV, hB, hh, hr⟩ := h
    rw [hV] at hg
    simp [blkOf] at hg
    subst hg
    by_cases hw : 0 < blk.cs.w
    · refine hr.at_ (w := c.w) fun j u hu => ?_
      rw [cell_of_row c.w g' j _ T (0, 0) (hh.cells hw)]
      simpa using hu
    · exact fun i j hi hj => by omega
  · obtain ⟨vs, ho, hr⟩ := h
    exact fun i j hi hj => by
      obtain ⟨v, hv, hp, h1⟩ := hr.at_ (w := c.w) (row_cells ho hg) i j hi hj
      exact ⟨v, hv, hp.loose, h1⟩

/-- One block has turned (a store, an append), or moved. -/
theorem post_upd (hok : HeapOk c B) {id : Nat} {blk blk' : Blk} {V' : Value} {w' : World} (hH : c.H id = some blk) (hg : c.w.grownBy w' (blkOf (c.loc id)))
    (hlen : blk.cs.len ≤ blk'.cs.len) (hw : blk'.cs.w = blk.cs.w) (hbox : blk'.box = blk.box) (hV : blk'.cs.len = blk.cs.len → V' = c.loc id)
    (hnew : ∀ g, blkOf V' = some g → blkOf (c.loc id) = some g ∨ c.w.heap.size ≤ g)
    (hblk : ∀ c' : Cx, c.Le c' → c'.w = w' → BlkOk c' B V' blk') :
    ∃ c' : Cx, c'.w = w' ∧ c'.loc = put c.loc id V' ∧ Post c c' B [(id, some blk')] := by
  have hstab : ∀ b, ¬ c.ow b → b < c.w.heap.size → w'.heap[b]? = c.w.heap[b]? := fun b hb hlt => hg.block b hlt (fun e => hb (hok.own id blk b hH e.symm))
  have hoth : ∀ id' bk g, id' ≠ id → c.H id' = some bk → blkOf (c.loc id') = some g → g < c.w.heap.size ∧ some g ≠ blkOf (c.loc id) := fun id' bk g hne hb hgg =>
    ⟨((hok.ok id' bk hb).2.lt hgg).2, fun e => hne (hok.inj id' id bk blk g hb hH hgg e.symm)⟩
  let c' : Cx := { w := w', loc := put c.loc id V', H := put c.H id (some blk'), A := c.A, ow := fun b => c.ow b ∨ blkOf V' = some b, pk := c.pk }
  have hid : ∀ b, c.idle b → c'.idle b := fun b hb => ⟨Nat.lt_of_lt_of_le hb.1 hg.size, fun id' bk' hb' e => by
    have hb1 : put c.H id (some blk') id' = some bk' := hb'
    have e1 : blkOf (put c.loc id V' id') = some b := e
    by_cases hi : id = id'
    · subst hi
      rw [put_same] at e1
      rcases hnew b e1 with h | h
      · exact hb.2 id blk hH h
      · have := hb.1
        omega
    · rw [put_ne _ _ hi] at hb1 e1
      exact hb.2 id' bk' hb1 e1⟩
  have hsame : ∀ b, c.idle b → w'.heap[b]? = c.w.heap[b]? := fun b hb => hg.block b hb.1 (fun e => hb.2 id blk hH e.symm)
  have hle : c.Le c' := by
    refine ⟨fun b hb hlt => ⟨?_, Nat.lt_of_lt_of_le hlt hg.size, fun o => World.cell?_of_block (w := c.w) (hstab b hb hlt)⟩, fun _ h => h, fun id' bk' ha hb => ?_, fun b hb => ⟨hb, hsame b (hok.pk b hb).2.1⟩⟩
    · rintro (h | h)
      · exact hb h
      · rcases hnew b h with h | h
        · exact hb (hok.own id blk b hH h)
        · omega
    · show ∃ b0, c.H id' = some b0 ∧ b0.cs.len ≤ bk'.cs.len ∧ bk'.cs.w = b0.cs.w ∧ bk'.box = b0.box ∧ (bk'.cs.len = b0.cs.len → put c.loc id V' id' = c.loc id')
      have hb' : put c.H id (some blk') id' = some bk' := hb
      by_cases hi : id = id'
      · subst hi
        rw [put_same] at hb'
        cases hb'
        exact ⟨blk, hH, hlen, hw, hbox, fun e => by rw [put_same]; exact hV e⟩
      · rw [put_ne _ _ hi] at hb'
        exact ⟨bk', hb', Nat.le_refl _, rfl, rfl, fun _ => put_ne _ _ hi⟩
  refine ⟨c', rfl, rfl, hle, ⟨fun id' bk' hb => ?_, fun id' bk' g hb hgg => ?_, fun i1 i2 b1 b2 g h1 h2 g1 g2 => ?_, Nat.le_trans hok.base hg.size, fun b hb => ?_, fun b hb => let ⟨h1, h2, vs, T, h3⟩ := hok.pk b hb; ⟨.inl h1, hid b h2, vs, T, (hsame b h2).trans h3⟩⟩, rfl, fun id' => ?_, (Below.refl B c.w).grown hg hok.base (fun k hk => ((hok.ok id blk hH).2.lt hk).1), fun _ _ h => .inl h, fun b hb => ⟨⟨Nat.lt_of_lt_of_le hb.1 hg.size, fun id' bk' hb' e => ?_⟩, hg.block b hb.1 (fun e => hb.2 id blk hH e.symm), .inl⟩, fun b hb => .inl hb⟩
  · have hb' : put c.H id (some blk') id' = some bk' := hb
    show c.A id' ∧ BlkOk c' B (put c.loc id V' id') bk'
    by_cases hi : id = id'
    · subst hi
      rw [put_same] at hb'
      cases hb'
      rw [put_same]
      exact ⟨(hok.ok id blk hH).1, hblk c' hle rfl⟩
    · rw [put_ne _ _ hi] at hb' ⊢
      obtain ⟨h1, h2⟩ := hok.ok id' bk' hb'
      refine ⟨h1, h2.mono hle fun g hgg => ?_⟩
      obtain ⟨h3, h4⟩ := hoth id' bk' g (fun e => hi e.symm) hb' hgg
      exact hg.block g h3 h4
  · have hb' : put c.H id (some blk') id' = some bk' := hb
    have hgg' : blkOf (put c.loc id V' id') = some g := hgg
    show c.ow g ∨ blkOf V' = some g
    by_cases hi : id = id'
    · subst hi
      rw [put_same] at hgg'
      exact .inr hgg'
    · rw [put_ne _ _ hi] at hb' hgg'
      exact .inl (hok.own id' bk' g hb' hgg')
  · have h1' : put c.H id (some blk') i1 = some b1 := h1
    have h2' : put c.H id (some blk') i2 = some b2 := h2
    have g1' : blkOf (put c.loc id V' i1) = some g := g1
    have g2' : blkOf (put c.loc id V' i2) = some g := g2
    by_cases hi : id = i1
    · by_cases hj : id = i2
      · exact hi.symm.trans hj
      · subst hi
        rw [put_same] at g1'
        rw [put_ne _ _ hj] at h2' g2'
        obtain ⟨h3, h4⟩ := hoth i2 b2 g (fun e => hj e.symm) h2' g2'
        rcases hnew g g1' with h | h
        · exact absurd h.symm h4
        · omega
    · by_cases hj : id = i2
      · subst hj
        rw [put_same] at g2'
        rw [put_ne _ _ hi] at h1' g1'
        obtain ⟨h3, h4⟩ := hoth i1 b1 g (fun e => hi e.symm) h1' g1'
        rcases hnew g g2' with h | h
        · exact absurd h.symm h4
        · omega
      · rw [put_ne _ _ hi] at h1' g1'
        rw [put_ne _ _ hj] at h2' g2'
        exact hok.inj i1 i2 b1 b2 g h1' h2' g1' g2'
  · rcases hb with h | h
    · exact Nat.lt_of_lt_of_le (hok.lt b h) hg.size
    · exact ((hblk c' hle rfl).lt h).2
  · show c.A id' ↔ c.A id' ∨ id' ∈ [id]
    refine ⟨fun h => .inl h, fun h => h.elim (fun h => h) fun h => ?_⟩
    simp at h
    subst h
    exact (hok.ok id' blk hH).1
  · have hb1 : put c.H id (some blk') id' = some bk' := hb'
    have e1 : blkOf (put c.loc id V' id') = some b := e
    by_cases hi : id = id'
    · subst hi
      rw [put_same] at e1
      rcases hnew b e1 with h | h
      · exact hb.2 id blk hH h
      · have := hb.1
        omega
    · rw [put_ne _ _ hi] at hb1 e1
      exact hb.2 id' bk' hb1 e1

/-- A new block. -/
theorem post_new (hok : HeapOk c B) {id : Nat} {blk' : Blk} {V' : Value} {w' : World} (hH : ¬ c.A id) (hg : c.w.grownBy w' none)
    (hnew : ∀ g, blkOf V' = some g → c.w.heap.size ≤ g) (hblk : ∀ c' : Cx, c.Le c' → c'.w = w' → BlkOk c' B V' blk') :
    ∃ c' : Cx, c'.w = w' ∧ c'.loc = put c.loc id V' ∧ Post c c' B [(id, some blk')] := by
  have hstab : ∀ b, b < c.w.heap.size → w'.heap[b]? = c.w.heap[b]? := fun b hlt => hg.block b hlt (fun e => by cases e)
  have hlt : ∀ id' bk g, c.H id' = some bk → blkOf (c.loc id') = some g → g < c.w.heap.size := fun id' bk g hb hgg => ((hok.ok id' bk hb).2.lt hgg).2
  have hne : ∀ id', c.A id' → id ≠ id' := fun id' h e => hH (e ▸ h)
  let c' : Cx := { w := w', loc := put c.loc id V', H := put c.H id (some blk'), A := fun i => c.A i ∨ i = id, ow := fun b => c.ow b ∨ blkOf V' = some b, pk := c.pk }
  have hid : ∀ b, c.idle b → c'.idle b := fun b hb => ⟨Nat.lt_of_lt_of_le hb.1 hg.size, fun id' bk' hb' e => by
    have hb1 : put c.H id (some blk') id' = some bk' := hb'
    have e1 : blkOf (put c.loc id V' id') = some b := e
    by_cases hi : id = id'
    · subst hi
      rw [put_same] at e1
      have := hnew b e1
      have := hb.1
      omega
    · rw [put_ne _ _ hi] at hb1 e1
      exact hb.2 id' bk' hb1 e1⟩
  have hle : c.Le c' := by
    refine ⟨fun b hb hlt' => ⟨?_, Nat.lt_of_lt_of_le hlt' hg.size, fun o => World.cell?_of_block (w := c.w) (hstab b hlt')⟩, fun _ h => .inl h, fun id' bk' ha hb => ?_, fun b hb => ⟨hb, hstab b (hok.pk b hb).2.1.1⟩⟩
    · rintro (h | h)
      · exact hb h
      · have := hnew b h
        omega
    · have hb' : put c.H id (some blk') id' = some bk' := hb
      have hi := hne id' ha
      rw [put_ne _ _ hi] at hb'
      exact ⟨bk', hb', Nat.le_refl _, rfl, rfl, fun _ => put_ne _ _ hi⟩
  refine ⟨c', rfl, rfl, hle, ⟨fun id' bk' hb => ?_, fun id' bk' g hb hgg => ?_, fun i1 i2 b1 b2 g h1 h2 g1 g2 => ?_, Nat.le_trans hok.base hg.size, fun b hb => ?_, fun b hb => let ⟨h1, h2, vs, T, h3⟩ := hok.pk b hb; ⟨.inl h1, hid b h2, vs, T, (hstab b h2.1).trans h3⟩⟩, rfl, fun id' => ?_, (Below.refl B c.w).grown hg hok.base (fun k hk => by cases hk), fun _ _ h => .inl h, fun b hb => ⟨⟨Nat.lt_of_lt_of_le hb.1 hg.size, fun id' bk' hb' e => ?_⟩, hstab b hb.1, .inl⟩, fun b hb => .inl hb⟩
  · have hb' : put c.H id (some blk') id' = some bk' := hb
    show (c.A id' ∨ id' = id) ∧ BlkOk c' B (put c.loc id V' id') bk'
    by_cases hi : id = id'
    · subst hi
      rw [put_same] at hb'
      cases hb'
      rw [put_same]
      exact ⟨.inr rfl, hblk c' hle rfl⟩
    · rw [put_ne _ _ hi] at hb' ⊢
      obtain ⟨h1, h2⟩ := hok.ok id' bk' hb'
      exact ⟨.inl h1, h2.mono hle fun g hgg => hstab g (hlt id' bk' g hb' hgg)⟩
  · have hb' : put c.H id (some blk') id' = some bk' := hb
    have hgg' : blkOf (put c.loc id V' id') = some g := hgg
    show c.ow g ∨ blkOf V' = some g
    by_cases hi : id = id'
    · subst hi
      rw [put_same] at hgg'
      exact .inr hgg'
    · rw [put_ne _ _ hi] at hb' hgg'
      exact .inl (hok.own id' bk' g hb' hgg')
  · have h1' : put c.H id (some blk') i1 = some b1 := h1
    have h2' : put c.H id (some blk') i2 = some b2 := h2
    have g1' : blkOf (put c.loc id V' i1) = some g := g1
    have g2' : blkOf (put c.loc id V' i2) = some g := g2
    by_cases hi : id = i1
    · by_cases hj : id = i2
      · exact hi.symm.trans hj
      · subst hi
        rw [put_same] at g1'
        rw [put_ne _ _ hj] at h2' g2'
        have := hlt i2 b2 g h2' g2'
        have := hnew g g1'
        omega
    · by_cases hj : id = i2
      · subst hj
        rw [put_same] at g2'
        rw [put_ne _ _ hi] at h1' g1'
        have := hlt i1 b1 g h1' g1'
        have := hnew g g2'
        omega
      · rw [put_ne _ _ hi] at h1' g1'
        rw [put_ne _ _ hj] at h2' g2'
        exact hok.inj i1 i2 b1 b2 g h1' h2' g1' g2'
  · rcases hb with h | h
    · exact Nat.lt_of_lt_of_le (hok.lt b h) hg.size
    · exact ((hblk c' hle rfl).lt h).2
  · show c.A id' ∨ id' = id ↔ c.A id' ∨ id' ∈ [id]
    simp
  · have hb1 : put c.H id (some blk') id' = some bk' := hb'
    have e1 : blkOf (put c.loc id V' id') = some b := e
    by_cases hi : id = id'
    · subst hi
      rw [put_same] at e1
      have := hnew b e1
      have := hb.1
      omega
    · rw [put_ne _ _ hi] at hb1 e1
      exact hb.2 id' bk' hb1 e1

/-- A world with new blocks that are nobody's. -/
theorem post_world (hok : HeapOk c B) {w' : World} (hg : c.w.grownBy w' none) : ∃ c' : Cx, c'.w = w' ∧ c'.loc = c.loc ∧ c'.ow = c.ow ∧ Post c c' B [] := by
  have hstab : ∀ b, b < c.w.heap.size → w'.heap[b]? = c.w.heap[b]? := fun b hlt => hg.block b hlt (fun e => by cases e)
  let c' : Cx := { c with w := w' }
  have hle : c.Le c' := ⟨fun b hb hlt => ⟨hb, Nat.lt_of_lt_of_le hlt hg.size, fun o => World.cell?_of_block (w := c.w) (hstab b hlt)⟩, fun _ h => h, fun id blk _ h => ⟨blk, h, Nat.le_refl _, rfl, rfl, fun _ => rfl⟩, fun b hb => ⟨hb, hstab b (hok.pk b hb).2.1.1⟩⟩
  refine ⟨c', rfl, rfl, rfl, hle, ⟨fun id blk hb => ?_, hok.own, hok.inj, Nat.le_trans hok.base hg.size, fun b hb => Nat.lt_of_lt_of_le (hok.lt b hb) hg.size, fun b hb => let ⟨h1, h2, vs, T, h3⟩ := hok.pk b hb; ⟨h1, ⟨Nat.lt_of_lt_of_le h2.1 hg.size, h2.2⟩, vs, T, (hstab b h2.1).trans h3⟩⟩, rfl, fun id => by simp; exact Iff.rfl, (Below.refl B c.w).grown hg hok.base (fun k hk => by cases hk), fun _ _ h => h, fun b hb => ⟨⟨Nat.lt_of_lt_of_le hb.1 hg.size, hb.2⟩, hstab b hb.1, fun h => h⟩, fun b hb => .inl hb⟩
  obtain ⟨h1, h2⟩ := hok.ok id blk hb
  exact ⟨h1, h2.mono hle fun g hgg => hstab g (h2.lt hgg).2⟩

theorem Post.trans {c1 c2 : Cx} {e1 e2 : Eff} (h1 : Post c c1 B e1) (h2 : Post c1 c2 B e2) : Post c c2 B (e1 ++ e2) := by
  refine ⟨h1.le.trans h2.le, h2.heap, ?_, fun id => ?_, h1.below.trans h2.below, fun b hb h => h2.ow b hb (h1.ow b hb h), fun b hb => let ⟨k1, k2, k3⟩ := h1.only b hb; let ⟨l1, l2, l3⟩ := h2.only b k1; ⟨l1, l2.trans k2, fun h => l3 (k3 h)⟩, fun b hb => (h2.pkn b hb).elim (h1.pkn b) fun h => .inr fun h' => h (h1.only b h').1⟩
  · rw [h2.H, h1.H]
    have : ∀ (e : Eff) (H : Nat → Option Blk), (e ++ e2).on H = e2.on (e.on H) := by
      intro e
      induction e with
      | nil => intro H; rfl
      | cons p r ih => intro H; obtain ⟨i, b⟩ := p; exact ih _
    rw [this]
  · rw [h2.A, h1.A, List.map_append, List.mem_append, or_assoc]
end Go.Pv


namespace Go.Pv
set_option linter.unusedVariables false
set_option linter.unusedSimpArgs false
open Go Go.RowKit
variable {P : Program} {T : Ty} {o : Oper} {a : Act} {c : Cx} {B n : Nat} {tm : Nat → PV} {K : PV → Eff → Prop}

/-- A block is no more the call's own: it is read from now on. -/
theorem post_kill (hok : HeapOk c B) {id : Nat} {blk : Blk} (hH : c.H id = some blk) :
    ∃ c' : Cx, c'.w = c.w ∧ c'.loc = c.loc ∧ (∀ g, blkOf (c.loc id) = some g → ¬ c'.ow g) ∧ Post c c' B [(id, none)] ∧ ∀ b, c'.ow b → c.ow b := by
  let c' : Cx := { c with H := put c.H id none, ow := fun b => c.ow b ∧ blkOf (c.loc id) ≠ some b }
  have hle : c.Le c' := by
    refine ⟨fun b hb hlt => ⟨fun h => hb h.1, hlt, fun _ => rfl⟩, fun _ h => h, fun id' bk ha hb => ?_, fun b hb => ⟨hb, rfl⟩⟩
    have hb' : put c.H id none id' = some bk := hb
    by_cases hi : id = id'
    · subst hi; rw [put_same] at hb'; cases hb'
    · rw [put_ne _ _ hi] at hb'
      exact ⟨bk, hb', Nat.le_refl _, rfl, rfl, fun _ => rfl⟩
  have hof : ∀ id' bk, put c.H id none id' = some bk → id ≠ id' ∧ c.H id' = some bk := fun id' bk hb' => by
    by_cases hi : id = id'
    · subst hi; rw [put_same] at hb'; cases hb'
    · rw [put_ne _ _ hi] at hb'
      exact ⟨hi, hb'⟩
  have hlow : ∀ b, b < B → blkOf (c.loc id) ≠ some b := fun b hb e => by have := ((hok.ok id blk hH).2.lt e).1; omega
  refine ⟨c', rfl, rfl, fun g hg h => h.2 hg, ⟨hle, ⟨fun id' bk hb => ?_, fun id' bk g hb hgg => ?_, fun i1 i2 b1 b2 g h1 h2 g1 g2 => hok.inj i1 i2 b1 b2 g (hof i1 b1 h1).2 (hof i2 b2 h2).2 g1 g2, hok.base, fun b hb => hok.lt b hb.1, fun b hb => let ⟨h1, h2, h3⟩ := hok.pk b hb; ⟨⟨h1, h2.2 id blk hH⟩, ⟨h2.1, fun id' bk hb' => h2.2 id' bk (hof id' bk hb').2⟩, h3⟩⟩, rfl, fun id' => ?_, Below.refl B c.w, (fun b hb h => ⟨h, fun e => hlow b hb e⟩), fun b hb => ⟨⟨hb.1, fun id' bk hb' => hb.2 id' bk (hof id' bk hb').2⟩, rfl, fun h => ⟨h, hb.2 id blk hH⟩⟩, fun b hb => .inl hb⟩, fun b hb => hb.1⟩
  · obtain ⟨h1, h2⟩ := hof id' bk hb
    obtain ⟨h3, h4⟩ := hok.ok id' bk h2
    exact ⟨h3, h4.mono hle fun _ _ => rfl⟩
  · obtain ⟨h1, h2⟩ := hof id' bk hb
    exact ⟨hok.own id' bk g h2 hgg, fun e => h1 (hok.inj id id' blk bk g hH h2 e hgg)⟩
  · show c.A id' ↔ c.A id' ∨ id' ∈ [id]
    refine ⟨fun h => .inl h, fun h => h.elim (fun h => h) fun h => ?_⟩
    simp at h
    subst h
    exact (hok.ok id' blk hH).1

/-- A whole row of the call's own, seen as a slice to be read. -/
theorem ro_of_own (c' : Cx) (hw : c'.w = c.w) {e : TypeId} {cs : Cells} {V v : Value} {vs : List Value} (ho : c.w.ownsRow B e cs.w V cs.len vs) (hr : Reps c' true cs vs)
    (hv : v = V ∨ (V = .slice none 0 0 ∧ ∃ A, v = .slice A 0 0)) (hn : ∀ g, blkOf V = some g → ¬ c'.ow g) (q : Bool) : Rep c' q (.ro cs) v := by
  rcases ho.2 with ⟨rfl, h0⟩ | ⟨g, cap, cur, rfl, hB, hh, hnc, hcm, hcs, htake⟩
  · rcases hv with rfl | ⟨_, A, rfl⟩
    · exact .ro0 q cs none 0 h0
    · exact .ro0 q cs A 0 h0
  · rcases hv with rfl | ⟨h, _⟩
    · by_cases h0 : cs.len = 0
      · rw [h0]; exact .ro0 q cs _ _ h0
      · have hex : ∀ i j, ∃ u, i < cs.len → j < cs.w → vs[i * cs.w + j]? = some u ∧ Rep c' true (cs.get i j) u ∧ u.oneCell' = true := fun i j => by
          by_cases hi : i < cs.len
          · by_cases hj : j < cs.w
            · obtain ⟨u, h1⟩ := hr.2 i j hi hj
              exact ⟨u, fun _ _ => h1⟩
            · exact ⟨undef, fun _ h => absurd h hj⟩
          · exact ⟨undef, fun h => absurd h hi⟩
        refine .ro q cs g 0 cap (fun i j => Classical.choose (hex i j)) (by omega) hnc (hn g rfl) (by rw [hw]; exact (Array.getElem?_eq_some_iff.1 hh).1) (fun i j hi hj => ⟨?_, (Classical.choose_spec (hex i j) hi hj).2.2⟩) (fun i j hi hj => (Classical.choose_spec (hex i j) hi hj).2.1)
        rw [hw, Nat.zero_add]
        exact row_cells ho rfl _ _ (Classical.choose_spec (hex i j) hi hj).1
    · cases h

theorem nil_ro {q : Bool} {cs : Cells} {v : Value} (h : Rep c q (.nil cs) v) : Rep c q (.ro cs) v := by
  cases h
  exact .ro0 q cs _ 0 (by assumption)

/-- A value that is no place of the call's own. -/
theorem Rep.pure1 {q : Bool} {p : PV} {v : Value} (h : Rep c q p v) (hp : match p with | .sl .. | .ptr .. | .asl .. | .yld .. | .agg _ | .tup _ | .any | .opt .. | .old _ _ | .oldp .. => False | .fn _ (_ :: _) => False | _ => True) : Rep c true p v := by
  cases h with
  | any => exact hp.elim
  | bool => exact .bool ..
  | int => exact .int ..
  | str => exact .str ..
  | nilf => exact .nilf _
  | nil _ cs A h => exact .nil true cs A h
  | ro0 _ cs A cp h => exact .ro0 true cs A cp h
  | ro _ cs b off cp f h1 h2 h3 h4 h5 h6 => exact .ro true cs b off cp f h1 h2 h3 h4 h5 h6
  | rop _ cs i j b off f h1 h2 h3 h4 => exact .rop true cs i j b off f h1 h2 h3 h4
  | sl => exact hp.elim
  | ptr => exact hp.elim
  | asl => exact hp.elim
  | yld => exact hp.elim
  | fn _ f caps vs h1 h2 =>
    cases caps with
    | nil => exact .fn true f [] vs h1 (fun i q v h => by simp at h)
    | cons => exact hp.elim
  | agg => exact hp.elim
  | tup => exact hp.elim
  | opt => exact hp.elim
  | old => exact hp.elim
  | oldp => exact hp.elim
  | uint _ k n => exact .uint true k n

def RepL (c : Cx) (q : Bool) (ps : List PV) (us : List Value) : Prop := ps.length = us.length ∧ ∀ (i : Nat) p u, ps[i]? = some p → us[i]? = some u → Rep c q p u
theorem RepL.nil {q : Bool} : RepL c q [] [] := ⟨rfl, fun i p u h => by simp at h⟩
theorem RepL.cons {q : Bool} {p : PV} {u : Value} {ps : List PV} {us : List Value} (h : Rep c q p u) (hs : RepL c q ps us) : RepL c q (p :: ps) (u :: us) := by
  refine ⟨by simp [hs.1], fun i p' u' h1 h2 => ?_⟩
  cases i with
  | zero => simp at h1 h2; subst h1; subst h2; exact h
  | succ i => simp at h1 h2; exact hs.2 i p' u' h1 h2
theorem RepL.uncons {q : Bool} {p : PV} {ps : List PV} {us : List Value} (h : RepL c q (p :: ps) us) : ∃ u us', us = u :: us' ∧ Rep c q p u ∧ RepL c q ps us' := by
  cases us with
  | nil => have := h.1; simp at this
  | cons u us' => exact ⟨u, us', rfl, h.2 0 p u rfl rfl, by have := h.1; simpa using this, fun i p' u' h1 h2 => h.2 (i + 1) p' u' (by simpa using h1) (by simpa using h2)⟩
theorem RepL.mono {c' : Cx} (hle : c.Le c') {q : Bool} {ps : List PV} {us : List Value} (h : RepL c q ps us) : RepL c' q ps us := ⟨h.1, fun i p u h1 h2 => (h.2 i p u h1 h2).mono hle⟩

theorem Rep.pur0 {c : Cx} {q : Bool} {p : PV} {v : Value} (h : Rep c q p v) (hp : pur1 p = true) : Rep c true p v := by
  refine h.pure1 ?_
  cases p <;> first | trivial | (simp [pur1] at hp; done) | skip
  case fn f caps =>
    cases caps with
    | nil => trivial
    | cons => simp [pur1] at hp
theorem mvL_ok : ∀ (ps : List PV) (us : List Value) (c : Cx) (K : List PV → Eff → Prop), HeapOk c B → RepL c false ps us → mvL c.H ps K →
    ∃ ps' eff c', K ps' eff ∧ RepL c' true ps' us ∧ c'.w = c.w ∧ Post c c' B eff ∧ ∀ id, c'.A id → c.A id
  | [], us, c, K, hok, hr, h => by
    have : us = [] := by have := hr.1; simpa using this.symm
    subst this
    exact ⟨[], [], c, h, .nil, rfl, .refl hok, fun _ h => h⟩
  | p :: ps, us, c, K, hok, hr, h => by
    obtain ⟨u, us, rfl, hp, hr'⟩ := hr.uncons
    have simple : (∀ K', mvL c.H ps K' = mvL c.H ps K') → mvL c.H ps (fun ps e => K (p :: ps) e) → Rep c true p u → ∃ ps' eff c', K ps' eff ∧ RepL c' true ps' (u :: us) ∧ c'.w = c.w ∧ Post c c' B eff ∧ ∀ id, c'.A id → c.A id := fun _ h hp' => by
      obtain ⟨ps', eff, c', hK, hl, hw, hpost, hA⟩ := mvL_ok ps us c _ hok hr' h
      exact ⟨p :: ps', eff, c', hK, .cons (hp'.mono hpost.le) hl, hw, hpost, hA⟩
    cases p <;> simp only [mvL] at h
    case bool => exact simple (fun _ => rfl) h (hp.pure1 trivial)
    case int => exact simple (fun _ => rfl) h (hp.pure1 trivial)
    case str => exact simple (fun _ => rfl) h (hp.pure1 trivial)
    case nilf => exact simple (fun _ => rfl) h (hp.pure1 trivial)
    case ro => exact simple (fun _ => rfl) h (hp.pure1 trivial)
    case rop => exact simple (fun _ => rfl) h (hp.pure1 trivial)
    case uint => exact simple (fun _ => rfl) h (hp.pure1 trivial)
    case fn f caps =>
      cases caps with
      | nil => exact simple (fun _ => rfl) h (hp.pure1 trivial)
      | cons q qs =>
        obtain ⟨hall, h⟩ := h
        refine simple (fun _ => rfl) h ?_
        cases hp with
        | fn _ _ _ vs h1 h2 => exact .fn true f (q :: qs) vs h1 fun i p v h3 h4 => (h2 i p v h3 h4).pur0 (List.all_eq_true.1 hall p (List.mem_of_getElem? h3))
    case nil cs =>
      obtain ⟨ps', eff, c', hK, hl, hw, hpost, hA⟩ := mvL_ok ps us c _ hok hr' h
      exact ⟨.ro cs :: ps', eff, c', hK, .cons ((nil_ro (hp.pure1 trivial)).mono hpost.le) hl, hw, hpost, hA⟩
    case sl id off m tot =>
      obtain ⟨rfl, rfl, h⟩ := h
      split at h
      · rename_i b hb
        obtain ⟨hlen, h⟩ := h
        obtain ⟨c1, hw1, hl1, hn1, hp1, _⟩ := post_kill hok hb
        have hH1 : c1.H = put c.H id none := hp1.H
        rw [← hH1] at h
        obtain ⟨ps', eff, c', hK, hl, hw, hpost, hA⟩ := mvL_ok ps us c1 _ hp1.heap (hr'.mono hp1.le) h
        have hro : Rep c1 true (.ro b.cs) u := by
          cases hp with
          | sl _ _ _ _ _ ha hs hk =>
            obtain ⟨hbox, _, hsl⟩ := hk b hb
            obtain ⟨_, hwh, _⟩ := hsl hlen
            have hv := hwh ⟨rfl, rfl⟩
            have hbk := (hok.ok id b hb).2
            unfold BlkOk at hbk
            rw [hbox] at hbk
            obtain ⟨vs, ho, hrr⟩ := hbk
            exact ro_of_own (B := B) (e := b.e) c1 hw1 ho (hrr.mono hp1.le) hv hn1 true
        exact ⟨.ro b.cs :: ps', (id, none) :: eff, c', hK, .cons (hro.mono hpost.le) hl, hw.trans hw1, hp1.trans hpost, fun i hi => ((hp1.A i).1 (hA i hi)).elim (fun h => h) (fun h => by simp at h; subst h; exact (hok.ok i b hb).1)⟩
      · exact h.elim

/-! ### What a callee may see -/
theorem sub_get (cs : Cells) (o n i j : Nat) (hi : i < n) : (cs.sub o n).get i j = cs.get (o + i) j := by
  cases cs with
  | lp L ps =>
    simp only [Cells.sub]
    split
    · rfl
    · simp only [Cells.get, List.getD_eq_getElem?_getD, List.getElem?_replicate, hi, if_true, Option.getD_some, List.getElem?_nil, Option.getD_none]
  | ints k xs => simp only [Cells.sub, Cells.get, List.getD_eq_getElem?_getD]; rw [List.getElem?_take_of_lt hi, List.getElem?_drop]
  | rows w rs => simp only [Cells.sub, Cells.get, List.getD_eq_getElem?_getD]; rw [List.getElem?_take_of_lt hi, List.getElem?_drop]
theorem sub_w (cs : Cells) (o n : Nat) : (cs.sub o n).w = cs.w := by
  cases cs with
  | lp L ps => simp only [Cells.sub]; split <;> rfl
  | _ => rfl
theorem sub_len (cs : Cells) (o n : Nat) (h : o + n ≤ cs.len) : (cs.sub o n).len = n := by
  cases cs with
  | lp L ps => simp only [Cells.sub]; split <;> simp [Cells.len] <;> omega
  | _ => simp [Cells.sub, Cells.len] at *; omega

/-- Cells of which each holds what is known of it: a slice over a part of them. -/
theorem ro_of_at (c : Cx) {cs : Cells} {b off cp : Nat} (hat : At c true cs b off) (hb : ¬ c.ow b) (hlt : b < c.w.heap.size) (q : Bool) (o n : Nat) (hn : o + n ≤ cs.len) (hcp : n ≤ cp) (h0 : 0 < n) :
    Rep c q (.ro (cs.sub o n)) (.slice (some ⟨b, off + o * cs.w, none⟩) n cp) := by
  have hl := sub_len cs o n hn
  have hex : ∀ i j, ∃ u, i < n → j < cs.w → c.w.cell? ⟨b, off + ((o + i) * cs.w + j), none⟩ = some u ∧ Rep c true (cs.get (o + i) j) u ∧ u.oneCell' = true := fun i j => by
    by_cases hi : i < n
    · by_cases hj : j < cs.w
      · obtain ⟨u, h1⟩ := hat (o + i) j (by omega) hj
        exact ⟨u, fun _ _ => h1⟩
      · exact ⟨undef, fun _ h => absurd h hj⟩
    · exact ⟨undef, fun h => absurd h hi⟩
  have key := Rep.ro (c := c) q (cs.sub o n) b (off + o * cs.w) cp (fun i j => Classical.choose (hex i j)) (by omega) (by omega) hb hlt (fun i j hi hj => ?_) (fun i j hi hj => ?_)
  · rw [hl] at key
    exact key
  · rw [sub_w] at hj ⊢
    rw [hl] at hi
    rw [show off + o * cs.w + (i * cs.w + j) = off + ((o + i) * cs.w + j) by rw [Nat.add_mul]; omega]
    exact ⟨(Classical.choose_spec (hex i j) hi hj).1, (Classical.choose_spec (hex i j) hi hj).2.2⟩
  · rw [sub_w] at hj
    rw [hl] at hi
    rw [sub_get cs o n i j hi]
    exact (Classical.choose_spec (hex i j) hi hj).2.1

theorem see_pure {c : Cx} {S : Nat → Prop} (hS : ∀ b, S b → c.ow b) {q : Bool} {p : PV} {v : Value} (hq : q = true) (h : Rep c q p v) : Rep (see S c.w) q p v :=
  @Rep.bare c (see S c.w) (fun b hb hlt => ⟨fun h => hb (hS b h), hlt, fun _ => rfl⟩) q hq p v h

theorem ptr_own (hok : HeapOk c B) {id i j tot : Nat} {v : Value} {b : Blk} (hr : Rep c false (.ptr id i j tot) v) (hb : c.H id = some b) (hl : b.cs.len = tot) :
    ∃ g, blkOf (c.loc id) = some g ∧ v = .pointer (some ⟨g, i * b.cs.w + j, none⟩) ∧ At c false b.cs g 0 := by
  cases hr with
  | ptr _ _ _ _ _ ha hs hk =>
    obtain ⟨g, hg, hv⟩ := (hk b hb).2 hl
    exact ⟨g, hg, hv, at_own hok hb hg⟩
theorem rop_mk {cs : Cells} {b off : Nat} (hat : At c true cs b off) (hb : ¬ c.ow b) (hlt : b < c.w.heap.size) (i0 j0 : Nat) (q : Bool) : Rep c q (.rop cs i0 j0) (.pointer (some ⟨b, off + (i0 * cs.w + j0), none⟩)) := by
  have hex : ∀ i j, ∃ u, i < cs.len → j < cs.w → c.w.cell? ⟨b, off + (i * cs.w + j), none⟩ = some u ∧ Rep c true (cs.get i j) u ∧ u.oneCell' = true := fun i j => by
    by_cases hi : i < cs.len
    · by_cases hj : j < cs.w
      · obtain ⟨u, h1⟩ := hat i j hi hj
        exact ⟨u, fun _ _ => h1⟩
      · exact ⟨undef, fun _ h => absurd h hj⟩
    · exact ⟨undef, fun h => absurd h hi⟩
  exact .rop q cs i0 j0 b off (fun i j => Classical.choose (hex i j)) hb hlt (fun i j hi hj => ⟨(Classical.choose_spec (hex i j) hi hj).1, (Classical.choose_spec (hex i j) hi hj).2.2⟩) (fun i j hi hj => (Classical.choose_spec (hex i j) hi hj).2.1)
theorem Rep.pur {q : Bool} {p : PV} {v : Value} (h : Rep c q p v) (hp : pur1 p = true) : Rep c true p v := by
  cases p <;> simp [pur1] at hp
  case fn f caps =>
    cases caps with
    | nil => exact h.pure1 trivial
    | cons => simp [pur1] at hp
  all_goals exact h.pure1 trivial
theorem pur_get {cs : Cells} (h : cs.pur = true) {i j : Nat} : pur1 (cs.get i j) = true ∨ cs.get i j = .any := by
  cases cs with
  | ints k xs => exact .inl rfl
  | lp L ps => exact .inr rfl
  | rows w rs =>
    simp only [Cells.get, List.getD_eq_getElem?_getD]
    cases hr : rs[i]? with
    | none => exact .inr rfl
    | some r =>
      have h1 := List.all_eq_true.1 (List.all_eq_true.1 h r (List.mem_of_getElem? hr))
      simp only [Option.getD_some]
      cases hc : r[j]? with
      | none => exact .inr rfl
      | some p => exact .inl (h1 p (List.mem_of_getElem? hc))
theorem frz1_ok (hok : HeapOk c B) {p : PV} {v : Value} {K : PV → List Nat → Prop} (hp : Rep c false p v) (h : frz1 c.H p K) :
    ∃ p' ids, K p' ids ∧ (∀ id ∈ ids, ∃ b, c.H id = some b) ∧ ∀ S : Nat → Prop, (∀ b, S b → c.ow b) → (∀ id ∈ ids, ∀ g, blkOf (c.loc id) = some g → ¬ S g) → Rep (see S c.w) true p' v := by
  have nop : ∀ id ∈ ([] : List Nat), ∃ b, c.H id = some b := fun id h => by simp at h
  cases p <;> simp only [frz1] at h
  case any => exact ⟨_, _, h, nop, fun S _ _ => .any ..⟩
  case fn f caps =>
    cases caps with
    | nil => exact ⟨_, _, h, nop, fun S hS _ => see_pure hS rfl (hp.pure1 trivial)⟩
    | cons => exact h.elim
  case nil cs => exact ⟨_, _, h, nop, fun S hS _ => see_pure hS rfl (nil_ro (hp.pure1 trivial))⟩
  case sl id off m tot =>
    split at h
    · rename_i b hb
      obtain ⟨hlen, h⟩ := h
      refine ⟨_, _, h, fun i hi => by simp at hi; subst hi; exact ⟨b, hb⟩, fun S hS hn => ?_⟩
      have hn := hn id (by simp)
      cases hp with
      | sl _ _ _ _ _ ha hs hk =>
        obtain ⟨hbox, _, hsl⟩ := hk b hb
        obtain ⟨hle, hwh, hpt⟩ := hsl hlen
        have hbk := (hok.ok id b hb).2
        unfold BlkOk at hbk
        rw [hbox] at hbk
        obtain ⟨vs, ho, hrr⟩ := hbk
        have hrr' : Reps (see S c.w) true b.cs vs := ⟨hrr.1, fun i j hi hj => by obtain ⟨u, h1, h2, h3⟩ := hrr.2 i j hi hj; exact ⟨u, h1, see_pure hS rfl h2, h3⟩⟩
        split
        · rename_i hw
          exact ro_of_own (B := B) (c := c) (e := b.e) (see S c.w) rfl ho hrr' (hwh hw) hn true
        · rename_i hw
          by_cases h0 : m = 0
          · subst h0
            obtain ⟨A, cp, rfl, _⟩ := hs
            exact .ro0 true _ A cp (sub_len b.cs off 0 (by omega))
          · rcases hpt hw with h | ⟨g, cp, hg, rfl⟩
            · exact absurd h h0
            · obtain ⟨A, cp', he, hcp⟩ := hs
              cases he
              have hat : At (see S c.w) true b.cs g 0 := hrr'.at_ (w := c.w) (row_cells ho hg)
              have := ro_of_at (see S c.w) hat (hn g hg) (by obtain ⟨_, h⟩ := (hok.ok id b hb).2.lt hg; exact h) true off m (by omega) hcp (by omega)
              rwa [Nat.zero_add] at this
    · exact h.elim
  case ptr id i j tot =>
    split at h
    · rename_i b hb
      obtain ⟨hlen, hpur, h⟩ := h
      refine ⟨_, _, h, fun i hi => by simp at hi; subst hi; exact ⟨b, hb⟩, fun S hS hn => ?_⟩
      have hn := hn id (by simp)
      obtain ⟨g, hg, rfl, hat⟩ := ptr_own hok hp hb hlen
      have hlt := ((hok.ok id b hb).2.lt hg).2
      have hat' : At (see S c.w) true b.cs g 0 := fun i j hi hj => by
        obtain ⟨v, h1, h2, h3⟩ := hat i j hi hj
        refine ⟨v, h1, see_pure hS rfl ?_, h3⟩
        rcases pur_get hpur (i := i) (j := j) with h4 | h4
        · exact h2.pur h4
        · rw [h4]; exact .any ..
      have := rop_mk hat' (hn g hg) hlt i j true
      rwa [Nat.zero_add] at this
    · exact h.elim
  all_goals exact ⟨_, _, h, nop, fun S hS _ => see_pure hS rfl (hp.pure1 trivial)⟩

theorem repL_of {q : Bool} {ps : List PV} {vs : Array Value} (h : ps.length = vs.size) (h' : ∀ (i : Nat) p v, ps[i]? = some p → vs[i]? = some v → Rep c q p v) : RepL c q ps vs.toList := ⟨by simpa using h, fun i p u h1 h2 => h' i p u h1 (by simpa using h2)⟩
theorem frzL_ok (hok : HeapOk c B) : ∀ (ps : List PV) (us : List Value) (K : List PV → List Nat → Prop), RepL c false ps us → frzL c.H ps K →
    ∃ ps' ids, K ps' ids ∧ (∀ id ∈ ids, ∃ b, c.H id = some b) ∧ ∀ S : Nat → Prop, (∀ b, S b → c.ow b) → (∀ id ∈ ids, ∀ g, blkOf (c.loc id) = some g → ¬ S g) → RepL (see S c.w) true ps' us
  | [], us, K, hr, h => by
    have : us = [] := by have := hr.1; simpa using this.symm
    subst this
    exact ⟨[], [], h, fun id h => by simp at h, fun _ _ _ => .nil⟩
  | p :: ps, us, K, hr, h => by
    obtain ⟨u, us, rfl, hp, hr'⟩ := hr.uncons
    obtain ⟨p', i1, h1, a1, h2⟩ := frz1_ok hok hp h
    obtain ⟨ps', i2, h3, a2, h4⟩ := frzL_ok hok ps us _ hr' h1
    exact ⟨p' :: ps', i1 ++ i2, h3, fun id h => (List.mem_append.1 h).elim (a1 id) (a2 id), fun S hS hn => .cons (h2 S hS fun id hi => hn id (List.mem_append_left _ hi)) (h4 S hS fun id hi => hn id (List.mem_append_right _ hi))⟩
theorem frz_ok (hok : HeapOk c B) {p : PV} {v : Value} {K : PV → List Nat → Prop} (hp : Rep c false p v) (h : frz c.H p K) :
    ∃ p' ids, K p' ids ∧ (∀ id ∈ ids, ∃ b, c.H id = some b) ∧ ∀ S : Nat → Prop, (∀ b, S b → c.ow b) → (∀ id ∈ ids, ∀ g, blkOf (c.loc id) = some g → ¬ S g) → Rep (see S c.w) true p' v := by
  unfold frz at h
  split at h
  · cases hp with
    | agg _ cs vs h1 h2 =>
      obtain ⟨ps', ids, h3, a1, h4⟩ := frzL_ok hok _ _ _ (repL_of h1 h2) h
      exact ⟨_, ids, h3, a1, fun S hS hn => let h5 := h4 S hS hn; .agg true _ _ (by simpa using h5.1) (fun i p u h6 h7 => h5.2 i p u h6 (by simpa using h7))⟩
  · cases hp with
    | fn _ f cs vs h1 h2 =>
      obtain ⟨ps', ids, h3, a1, h4⟩ := frzL_ok hok _ _ _ (repL_of h1 h2) h
      exact ⟨_, ids, h3, a1, fun S hS hn => let h5 := h4 S hS hn; .fn true _ _ _ (by simpa using h5.1) (fun i p u h6 h7 => h5.2 i p u h6 (by simpa using h7))⟩
  · exact frz1_ok hok hp h
theorem frzA_ok (hok : HeapOk c B) : ∀ (ps : List PV) (us : List Value) (K : List PV → List Nat → Prop), RepL c false ps us → frzA c.H ps K →
    ∃ ps' ids, K ps' ids ∧ (∀ id ∈ ids, ∃ b, c.H id = some b) ∧ ∀ S : Nat → Prop, (∀ b, S b → c.ow b) → (∀ id ∈ ids, ∀ g, blkOf (c.loc id) = some g → ¬ S g) → RepL (see S c.w) true ps' us
  | [], us, K, hr, h => by
    have : us = [] := by have := hr.1; simpa using this.symm
    subst this
    exact ⟨[], [], h, fun id h => by simp at h, fun _ _ _ => .nil⟩
  | p :: ps, us, K, hr, h => by
    obtain ⟨u, us, rfl, hp, hr'⟩ := hr.uncons
    obtain ⟨p', i1, h1, a1, h2⟩ := frz_ok hok hp h
    obtain ⟨ps', i2, h3, a2, h4⟩ := frzA_ok hok ps us _ hr' h1
    exact ⟨p' :: ps', i1 ++ i2, h3, fun id h => (List.mem_append.1 h).elim (a1 id) (a2 id), fun S hS hn => .cons (h2 S hS fun id hi => hn id (List.mem_append_left _ hi)) (h4 S hS fun id hi => hn id (List.mem_append_right _ hi))⟩

/-- Blocks that are given away. -/
def kills (ids : List Nat) : Eff := ids.map fun i => (i, none)
theorem kills_ok : ∀ (ids : List Nat) (c : Cx), HeapOk c B → (∀ id ∈ ids, c.A id) →
    ∃ c' : Cx, c'.w = c.w ∧ c'.loc = c.loc ∧ Post c c' B (kills ids) ∧ (∀ b, c'.ow b → c.ow b) ∧ ∀ id ∈ ids, ∀ blk g, c.H id = some blk → blkOf (c.loc id) = some g → ¬ c'.ow g
  | [], c, hok, _ => ⟨c, rfl, rfl, .refl hok, fun _ h => h, fun id h => by simp at h⟩
  | id :: ids, c, hok, ha => by
    have step : ∃ c1 : Cx, c1.w = c.w ∧ c1.loc = c.loc ∧ Post c c1 B [(id, none)] ∧ (∀ b, c1.ow b → c.ow b) ∧ ∀ blk g, c.H id = some blk → blkOf (c.loc id) = some g → ¬ c1.ow g := by
      cases hH : c.H id with
      | none =>
        refine ⟨c, rfl, rfl, ⟨.refl c, hok, ?_, fun id' => ?_, Below.refl _ _, fun _ _ h => h, fun b h => ⟨h, rfl, fun h => h⟩, fun _ h => .inl h⟩, fun _ h => h, fun blk g h => by cases h⟩
        · funext j
          show c.H j = put c.H id none j
          rw [put_at]
          split
          · rename_i h; rw [← h]; exact hH
          · rfl
        · refine ⟨fun h => .inl h, fun h => h.elim (fun h => h) fun h => ?_⟩
          simp at h
          subst h
          exact ha id' (by simp)
      | some blk =>
        obtain ⟨c1, h1, h2, h3, h4, h5⟩ := post_kill hok hH
        exact ⟨c1, h1, h2, h4, h5, fun blk' g _ hg => h3 g hg⟩
    obtain ⟨c1, h1, h2, h3, h4, h5⟩ := step
    obtain ⟨c2, k1, k2, k3, k4, k5⟩ := kills_ok ids c1 h3.heap fun i hi => (h3.A i).2 (.inl (ha i (List.mem_cons_of_mem _ hi)))
    refine ⟨c2, k1.trans h1, k2.trans h2, h3.trans k3, fun b hb => h4 b (k4 b hb), fun i hi blk g hb hg => ?_⟩
    rcases List.mem_cons.1 hi with rfl | hi'
    · exact fun h => h5 blk g hb hg (k4 g h)
    · by_cases hid : id = i
      · subst hid
        exact fun h => h5 blk g hb hg (k4 g h)
      · refine k5 i hi' blk g ?_ (by rw [h2]; exact hg)
        rw [h3.H]
        show put c.H id none i = _
        rw [put_ne _ _ hid]
        exact hb
end Go.Pv


namespace Go.Pv
set_option linter.unusedVariables false
set_option linter.unusedSimpArgs false
open Go Go.RowKit
variable {P : Program} {T : Ty} {o : Oper} {a : Act} {c : Cx} {B n : Nat} {tm : Nat → PV} {K : PV → Eff → Prop}

/-- What a pointer of the call's own points to. -/
theorem rop_at {q : Bool} {cs : Cells} {i j : Nat} {v : Value} (hr : Rep c q (.rop cs i j) v) : ∃ b off, v = .pointer (some ⟨b, off + (i * cs.w + j), none⟩) ∧ At c true cs b off ∧ ¬ c.ow b ∧ b < c.w.heap.size := by
  cases hr with
  | rop _ _ _ _ b off f h1 h2 h3 h4 => exact ⟨b, off, rfl, fun i j hi hj => ⟨f i j, (h3 i j hi hj).1, h4 i j hi hj, (h3 i j hi hj).2⟩, h1, h2⟩
theorem ro_at {q : Bool} {cs : Cells} {v : Value} (hr : Rep c q (.ro cs) v) : (cs.len = 0 ∧ ∃ A cp, v = .slice A 0 cp) ∨ ∃ b off cp, v = .slice (some ⟨b, off, none⟩) cs.len cp ∧ cs.len ≤ cp ∧ At c true cs b off ∧ ¬ c.ow b ∧ b < c.w.heap.size := by
  cases hr with
  | ro0 _ _ A cp h => exact .inl ⟨h, A, cp, rfl⟩
  | ro _ _ b off cp f h0 h1 h2 h3 h4 h5 => exact .inr ⟨b, off, cp, rfl, h1, fun i j hi hj => ⟨f i j, (h4 i j hi hj).1, h5 i j hi hj, (h4 i j hi hj).2⟩, h2, h3⟩

theorem does_load (hT : TyOk P T) (hok : HeapOk c B) {t : TypeId} {x : Operand} (hop : o.op = .load t x) {p : PV} (hx : Rep c false p (a.eval x)) {ti : TI} (ht : T t = some ti)
    (h : ldP ti c.H p fun v => K v []) : Does P o a c B K := by
  have hex : execOp a.eval o = (do pure (.value (← Instr.loadAt t (a.eval x)))) := by simp only [execOp, hop]
  cases p <;> try (exact h.elim)
  case ptr id i j tot =>
    unfold ldP at h
    dsimp only at h
    split at h
    · rename_i b hb
      obtain ⟨hl, h⟩ := h
      obtain ⟨g, hg, hv, hat⟩ := ptr_own hok hx hb hl
      obtain ⟨v, pv, hr, hrep, hk⟩ := load_at hT ht hat h
      rw [Nat.zero_add] at hr
      exact does_sem hex (by rw [hv]; exact hr) hrep hk hok
    · exact h.elim
  case rop cs i j =>
    obtain ⟨b, off, hv, hat, _, _⟩ := rop_at hx
    obtain ⟨v, pv, hr, hrep, hk⟩ := load_at (K := fun v => K v []) hT ht hat h
    exact does_sem hex (by rw [hv]; exact hr) hrep.loose hk hok

theorem field_run (hT : TyOk P T) {t : TypeId} {ti : TI} {fs : List (TypeId × Nat)} (ht : T t = some ti) (hk : ti.k = .struct fs) {f ft off : Nat} (hf : fs[f]? = some (ft, off)) {tf : TI} (htf : T ft = some tf) (h0 : 0 < tf.sz) (b q : Nat) (w : World) :
    (Instr.fieldAt t (.pointer (some ⟨b, q, none⟩)) f).run P w = .ok (.pointer (some ⟨b, q + off, none⟩)) w := by
  obtain ⟨F, hF, hm, _⟩ := hT.struct t ti fs ht hk
  have : ∃ fd, F[f]? = some fd ∧ fd.type = ft ∧ fd.offset = off := by
    rw [← hm, List.getElem?_map] at hf
    cases hq : F.toList[f]? with
    | none => rw [hq] at hf; cases hf
    | some fd => rw [hq] at hf; simp at hf; exact ⟨fd, by simpa using hq, hf.1, hf.2⟩
  obtain ⟨fd, h1, h2, h3⟩ := this
  subst h2
  subst h3
  have hs := sizeOf_run hT htf w
  have hz : tf.sz ≠ 0 := by omega
  simp [Instr.fieldAt, run_underlying hF, h1, Instr.sureAddr, fieldPlace, hs, hz, Addr.add_lit]

theorem does_field (hT : TyOk P T) (hok : HeapOk c B) {t : TypeId} {x : Operand} {f : Nat} (hop : o.op = .fieldAddr t x f) {p : PV} (hx : Rep c false p (a.eval x)) {ti : TI} (ht : T t = some ti) {fs : List (TypeId × Nat)} (hk : ti.k = .struct fs) {ft off : Nat} (hf : fs[f]? = some (ft, off))
    {tf : TI} (htf : T ft = some tf) (h0 : 0 < tf.sz)
    (h : fldP c.H off p fun v => K v []) : Does P o a c B K := by
  have hex : execOp a.eval o = (do pure (.value (← Instr.fieldAt t (a.eval x) f))) := by simp only [execOp, hop]
  cases p <;> try (exact h.elim)
  case ptr id i j tot =>
    obtain ⟨hb, h⟩ := h
    unfold live at hb
    split at hb
    · rename_i b hb'
      obtain ⟨g, hg, hv, hat⟩ := ptr_own hok hx hb' hb
      refine does_sem hex (by rw [hv]; exact field_run hT ht hk hf htf h0 g _ c.w) ?_ h hok
      cases hx with
      | ptr _ _ _ _ _ ha hs hkk =>
        refine .ptr _ _ _ _ _ ha ⟨_, rfl⟩ fun b2 hb2 => ⟨(hkk b2 hb2).1, fun e => ?_⟩
        rw [hb'] at hb2
        cases hb2
        exact ⟨g, hg, by rw [Nat.add_assoc]⟩
    · exact hb.elim
  case rop cs i j =>
    obtain ⟨b, off', hv, hat, h1, h2⟩ := rop_at hx
    refine does_sem hex (by rw [hv]; exact field_run hT ht hk hf htf h0 b _ c.w) ?_ h hok
    have := rop_mk hat h1 h2 i (j + off) false
    rwa [← Nat.add_assoc (i * cs.w), ← Nat.add_assoc off'] at this

theorem idx_ok {p : PV} {v : Value} {K : Int → Prop} (hp : Rep c false p v) (h : idx p K) : ∃ k i, v = .int k i ∧ K i := by
  unfold idx at h
  split at h
  · cases hp; exact ⟨_, _, rfl, h⟩
  · exact h.elim

/-- A slice of the call's own: its address. -/
theorem sl_own (hok : HeapOk c B) {id off n tot : Nat} {v : Value} {b : Blk} (hr : Rep c false (.sl id off n tot) v) (hb : c.H id = some b) (hl : b.cs.len = tot) (h0 : 0 < n) :
    ∃ g cp, blkOf (c.loc id) = some g ∧ v = .slice (some ⟨g, off * b.cs.w, none⟩) n cp ∧ At c true b.cs g 0 ∧ off + n ≤ tot ∧ n ≤ cp ∧ b.box = false := by
  cases hr with
  | sl _ _ _ _ _ ha hs hk =>
    obtain ⟨hbox, _, hsl⟩ := hk b hb
    obtain ⟨hle, hwh, hpt⟩ := hsl hl
    obtain ⟨A, cp, hv, hcp⟩ := hs
    have hbk := (hok.ok id b hb).2
    unfold BlkOk at hbk
    rw [hbox] at hbk
    obtain ⟨vs, ho, hrr⟩ := hbk
    by_cases hw : off = 0 ∧ n = tot
    · rcases hwh hw with h | ⟨h, A', h'⟩
      · rcases ho.2 with ⟨hV, hz⟩ | ⟨g, cap, cur, hV, _⟩
        · omega
        · obtain ⟨rfl, rfl⟩ := hw
          have hg : blkOf (c.loc id) = some g := by rw [hV]; rfl
          refine ⟨g, cap, hg, ?_, hrr.at_ (w := c.w) (row_cells ho hg), by omega, ?_, hbox⟩
          · rw [h, hV, hl, Nat.zero_mul]
          · rw [h, hV] at hv
            cases hv
            exact hcp
      · rw [h'] at hv
        cases hv
        omega
    · rcases hpt hw with h | ⟨g, cp', hg, h⟩
      · omega
      · refine ⟨g, cp', hg, h, hrr.at_ (w := c.w) (row_cells ho hg), hle, ?_, hbox⟩
        rw [h] at hv
        cases hv
        exact hcp

theorem index_run (hT : TyOk P T) {t e : TypeId} {ti te : TI} (ht : T t = some ti) (hk : ti.k = .slice e) (hte : T e = some te) (b q n cp : Nat) (k : IntKind) (i : Int) (h0 : 0 ≤ i) (h1 : i < n) (w : World) :
    (Instr.indexAt t (.slice (some ⟨b, q, none⟩) n cp) (.int k i)).run P w = .ok (.pointer (some ⟨b, q + i.toNat * te.sz, none⟩)) w := by
  have hu := (hT.slice t ti e ht hk).1
  simp [Instr.indexAt, asIntOf, run_underlying hu, h0, h1, sizeOf_run hT hte, Addr.add_lit]

theorem indexArr_run (hT : TyOk P T) {t e m : TypeId} {ti te : TI} (ht : T t = some ti) (hk : ti.k = .arr m e) (hte : T e = some te) (b q : Nat) (k : IntKind) (i : Int) (h0 : 0 ≤ i) (h1 : i < m) (w : World) :
    (Instr.indexAt t (.pointer (some ⟨b, q, none⟩)) (.int k i)).run P w = .ok (.pointer (some ⟨b, q + i.toNat * te.sz, none⟩)) w := by
  have hu := hT.arr t ti m e ht hk
  simp [Instr.indexAt, asIntOf, run_underlying hu, h0, h1, sizeOf_run hT hte, Addr.add_lit, Instr.sureAddr]

theorem does_indexSl (hT : TyOk P T) (hok : HeapOk c B) {t : TypeId} {x ix : Operand} (hop : o.op = .indexAddr t x ix) {p pi : PV} (hx : Rep c false p (a.eval x)) (hi : Rep c false pi (a.eval ix)) {ti te : TI} {e : TypeId} (ht : T t = some ti) (hk : ti.k = .slice e) (hte : T e = some te)
    (h : idx pi fun i => ixS c.H te i p fun v => K v []) : Does P o a c B K := by
  have hex : execOp a.eval o = (do pure (.value (← Instr.indexAt t (a.eval x) (a.eval ix)))) := by simp only [execOp, hop]
  obtain ⟨k, i, hiv, h2⟩ := idx_ok hi h
  clear h
  have h := h2
  clear h2
  rw [hiv] at hex
  cases p <;> try (exact h.elim)
  case ro cs =>
    obtain ⟨h0, h1, hw, h⟩ := h
    rcases ro_at hx with ⟨hz, _⟩ | ⟨b, off, cp, hv, hcp, hat, hb, hlt⟩
    · omega
    · rw [hv] at hex
      refine does_sem hex (index_run hT ht hk hte b off cs.len cp k i h0 h1 c.w) ?_ h hok
      have := rop_mk hat hb hlt i.toNat 0 false
      rwa [Nat.add_zero, hw] at this
  case sl id off m tot =>
    unfold ixS at h
    dsimp only at h
    split at h
    · rename_i b hb
      obtain ⟨hl, hw, h0, h1, h⟩ := h
      obtain ⟨g, cp, hg, hv, hat, hle, hcp, hbox⟩ := sl_own hok hx hb hl (by omega)
      rw [hv] at hex
      refine does_sem hex (index_run hT ht hk hte g _ m cp k i h0 h1 c.w) ?_ h hok
      cases hx with
      | sl _ _ _ _ _ ha hs hkk =>
        refine .ptr _ _ _ _ _ ha ⟨_, rfl⟩ fun b2 hb2 => ⟨(hkk b2 hb2).2.1, fun e' => ?_⟩
        rw [hb] at hb2
        cases hb2
        exact ⟨g, hg, by rw [Nat.add_zero, ← hw, Nat.add_mul]⟩
    · exact h.elim
  case asl id j m =>
    unfold ixS at h
    dsimp only at h
    split at h
    · rename_i b hb
      obtain ⟨hl, h0, h1, h⟩ := h
      cases hx with
      | asl _ _ _ _ ha hs hkk =>
        obtain ⟨hbox, _, hg⟩ := hkk b hb
        obtain ⟨g, cp, hg, hv⟩ := hg hl
        rw [hv] at hex
        refine does_sem hex (index_run hT ht hk hte g j m cp k i h0 h1 c.w) ?_ h hok
        refine .ptr _ _ _ _ _ ha ⟨_, rfl⟩ fun b2 hb2 => ⟨(hkk b2 hb2).2.1, fun e' => ?_⟩
        rw [hb] at hb2
        cases hb2
        exact ⟨g, hg, by simp⟩
    · exact h.elim

theorem does_indexArr (hT : TyOk P T) (hok : HeapOk c B) {t : TypeId} {x ix : Operand} (hop : o.op = .indexAddr t x ix) {p pi : PV} (hx : Rep c false p (a.eval x)) (hi : Rep c false pi (a.eval ix)) {ti te : TI} {m e : TypeId} (ht : T t = some ti) (hk : ti.k = .arr m e) (hte : T e = some te)
    (h : idx pi fun i => ixA c.H m te i p fun v => K v []) : Does P o a c B K := by
  have hex : execOp a.eval o = (do pure (.value (← Instr.indexAt t (a.eval x) (a.eval ix)))) := by simp only [execOp, hop]
  obtain ⟨k, i, hiv, h2⟩ := idx_ok hi h
  clear h
  have h := h2
  clear h2
  rw [hiv] at hex
  cases p <;> try (exact h.elim)
  case ptr id q j tot =>
    obtain ⟨hb, h0, h1, h⟩ := h
    unfold live at hb
    split at hb
    · rename_i b hb'
      obtain ⟨g, hg, hv, hat⟩ := ptr_own hok hx hb' hb
      rw [hv] at hex
      refine does_sem hex (indexArr_run hT ht hk hte g _ k i h0 h1 c.w) ?_ h hok
      cases hx with
      | ptr _ _ _ _ _ ha hs hkk =>
        refine .ptr _ _ _ _ _ ha ⟨_, rfl⟩ fun b2 hb2 => ⟨(hkk b2 hb2).1, fun e' => ?_⟩
        rw [hb'] at hb2
        cases hb2
        exact ⟨g, hg, by rw [Nat.add_assoc]⟩
    · exact hb.elim
  case rop cs q j =>
    obtain ⟨h0, h1, h⟩ := h
    obtain ⟨b, off', hv, hat, hb, hlt⟩ := rop_at hx
    rw [hv] at hex
    refine does_sem hex (indexArr_run hT ht hk hte b _ k i h0 h1 c.w) ?_ h hok
    have := rop_mk hat hb hlt q (j + i.toNat * te.sz) false
    rwa [← Nat.add_assoc (q * cs.w), ← Nat.add_assoc off'] at this
end Go.Pv

