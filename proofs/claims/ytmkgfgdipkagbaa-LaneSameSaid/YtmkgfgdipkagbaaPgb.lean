import Derived.Test.YtmkgfgdipkagbaaPga
import Derived.Laws.CopyOwn
import Derived.Great.BuildSlice
namespace Go.Pv
set_option linter.unusedVariables false
set_option linter.unusedSimpArgs false
open Go Go.RowKit
variable {P : Program} {T : Ty} {o : Oper} {a : Act} {c : Cx} {B n : Nat} {tm : Nat → PV} {K : PV → Eff → Prop}

theorem cells_rep {q : Bool} {p : PV} {v : Value} {ps : List PV} (hp : cellsOf p = some ps) (h : Rep c q p v) : RepL c q ps v.cells.toList := by
  cases h with
  | any => cases hp
  | tup => cases hp
  | opt => cases hp
  | asl => cases hp
  | yld => cases hp
  | agg _ cs vs h1 h2 => cases hp; exact repL_of h1 h2
  | bool => cases hp; exact .cons (.bool ..) .nil
  | int => cases hp; exact .cons (.int ..) .nil
  | str => cases hp; exact .cons (.str ..) .nil
  | nilf => cases hp; exact .cons (.nilf _) .nil
  | nil _ cs A h => cases hp; exact .cons (.nil _ cs A h) .nil
  | ro0 _ cs A cp h => cases hp; exact .cons (.ro0 _ cs A cp h) .nil
  | ro _ cs b off cp f h1 h2 h3 h4 h5 h6 => cases hp; exact .cons (.ro _ cs b off cp f h1 h2 h3 h4 h5 h6) .nil
  | rop _ cs i j b off f h1 h2 h3 h4 => cases hp; exact .cons (.rop _ cs i j b off f h1 h2 h3 h4) .nil
  | sl id off n tot v ha hs hk =>
    cases hp
    obtain ⟨A, cp, rfl, _⟩ := hs
    exact .cons (.sl id off n tot _ ha ⟨A, cp, rfl, by assumption⟩ hk) .nil
  | ptr id i j tot v ha hs hk =>
    cases hp
    obtain ⟨x, rfl⟩ := hs
    exact .cons (.ptr id i j tot _ ha ⟨x, rfl⟩ hk) .nil
  | fn _ f caps vs h1 h2 => cases hp; exact .cons (.fn _ f caps vs h1 h2) .nil
  | old Te cs v hd =>
    cases hp
    have hv : ∃ A n cp, v = .slice A n cp := by cases hd <;> exact ⟨_, _, _, rfl⟩
    obtain ⟨A, n, cp, rfl⟩ := hv
    exact .cons (.old Te cs _ hd) .nil
  | oldp Te cs i0 j0 b off arr f h1 h2 h3 h4 => cases hp; exact .cons (.oldp Te cs i0 j0 b off arr f h1 h2 h3 h4) .nil
  | uint _ k n => cases hp; exact .cons (.uint _ k n) .nil

theorem one_rep {q : Bool} {p : PV} {v : Value} (hp : p.one = true) (h : Rep c q p v) : v.oneCell' = true := by
  cases h <;> first | rfl | (cases hp; done) | skip
  · rename_i hs hk
    obtain ⟨A, cp, rfl, _⟩ := hs
    rfl
  · rename_i hs hk
    obtain ⟨x, rfl⟩ := hs
    rfl
  · rename_i hd
    cases hd <;> rfl

/-- The cells of a value go into a box. -/
theorem reps_box {q : Bool} {vs : List PV} {us : List Value} (h : RepL c q vs us) (h1 : vs.all PV.one = true) : Reps c q (.rows vs.length [vs]) us := by
  refine ⟨by simp [Cells.len, Cells.w, h.1], fun i j hi hj => ?_⟩
  simp only [Cells.len, Cells.w, List.length_cons, List.length_nil] at hi hj
  obtain rfl : i = 0 := by omega
  have hj' : j < us.length := by rw [← h.1]; exact hj
  have e1 : vs[j]? = some vs[j] := List.getElem?_eq_getElem hj
  have e2 : us[j]? = some us[j] := List.getElem?_eq_getElem hj'
  have hr := h.2 j _ _ e1 e2
  refine ⟨us[j], by rw [Nat.zero_mul, Nat.zero_add]; exact e2, ?_, one_rep (List.all_eq_true.1 h1 _ (List.getElem_mem hj)) hr⟩
  simp [Cells.get, hj]
  exact hr

theorem does_boxed (hok : HeapOk c B) (hn : ¬ c.A n) {e : TypeId} {v : Value} (hex : (execOp a.eval o).run P c.w = .ok (.value (.pointer (some ⟨c.w.heap.size, 0, none⟩))) (c.w.alloc (.cells v.cells e))) {p : PV} {vs : List PV} (hp : Rep c false p v) (hc : cellsOf p = some vs) (h1 : vs.all PV.one = true)
    (h : K (.ptr n 0 0 1) [(n, some ⟨.rows vs.length [vs], true, e⟩)]) : Does P o a c B K := fun next Q hnext => by
  have hl := cells_rep hc hp
  obtain ⟨c', hw, hloc, hpost⟩ := post_new (id := n) (V' := .pointer (some ⟨c.w.heap.size, 0, none⟩)) (blk' := ⟨.rows vs.length [vs], true, e⟩) hok hn (World.grownBy_alloc c.w (.cells v.cells e) none) (fun g hg => by simp [blkOf] at hg; omega)
    (fun c' hle hw' => by
      unfold BlkOk
      rw [if_pos rfl]
      refine ⟨c.w.heap.size, v.cells.toList, e, rfl, hok.base, ?_, reps_box (hl.mono hle) h1⟩
      show c'.w.heap[c.w.heap.size]? = _
      rw [hw']
      simpa using heap_alloc_new c.w (.cells v.cells e))
  unfold Oper.wp
  rw [hex, ← hw]
  refine hnext _ _ _ c' h ?_ hpost
  refine .ptr n 0 0 1 _ ((hpost.A n).2 (.inr (by simp))) ⟨_, rfl⟩ fun b hb => ?_
  rw [hpost.H] at hb
  simp [Eff.on, put_same] at hb
  subst hb
  refine ⟨by simp [Cells.len], fun _ => ⟨c.w.heap.size, by rw [hloc, put_same]; rfl, by simp⟩⟩

theorem does_any (hok : HeapOk c B) (hn : ¬ c.A n) {e : TypeId} {v : Value} (hex : (execOp a.eval o).run P c.w = .ok (.value (.pointer (some ⟨c.w.heap.size, 0, none⟩))) (c.w.alloc (.cells v.cells e))) (h1 : v.oneCell' = true) (h2 : v.cells = #[v])
    (h : K (.ptr n 0 0 1) [(n, some ⟨.rows 1 [[.any]], true, e⟩)]) : Does P o a c B K := fun next Q hnext => by
  obtain ⟨c', hw, hloc, hpost⟩ := post_new (id := n) (V' := .pointer (some ⟨c.w.heap.size, 0, none⟩)) (blk' := ⟨.rows 1 [[.any]], true, e⟩) hok hn (World.grownBy_alloc c.w (.cells v.cells e) none) (fun g hg => by simp [blkOf] at hg; omega)
    (fun c' hle hw' => by
      unfold BlkOk
      rw [if_pos rfl]
      refine ⟨c.w.heap.size, v.cells.toList, e, rfl, hok.base, ?_, ⟨by rw [h2]; rfl, fun i j hi hj => ?_⟩⟩
      · show c'.w.heap[c.w.heap.size]? = _
        rw [hw']
        simpa using heap_alloc_new c.w (.cells v.cells e)
      · have hi0 : i = 0 := by have : i < 1 := hi; omega
        have hj0 : j = 0 := by have : j < 1 := hj; omega
        subst hi0 hj0
        exact ⟨v, by rw [h2]; rfl, .any .., h1⟩)
  unfold Oper.wp
  rw [hex, ← hw]
  refine hnext _ _ _ c' h ?_ hpost
  refine .ptr n 0 0 1 _ ((hpost.A n).2 (.inr (by simp))) ⟨_, rfl⟩ fun b hb => ?_
  rw [hpost.H] at hb
  simp [Eff.on, put_same] at hb
  subst hb
  refine ⟨by simp [Cells.len], fun _ => ⟨c.w.heap.size, by rw [hloc, put_same]; rfl, by simp⟩⟩

theorem splice_at {α : Type} (l us : List α) (p k : Nat) (h : p + us.length ≤ l.length) : (l.take p ++ us ++ l.drop (p + us.length))[k]? = if k < p then l[k]? else if k < p + us.length then us[k - p]? else l[k]? := by
  have hl : (l.take p).length = p := by rw [List.length_take]; omega
  split
  · rename_i hk
    rw [List.append_assoc, List.getElem?_append_left (by omega), List.getElem?_take_of_lt hk]
  · split
    · rw [List.append_assoc, List.getElem?_append_right (by omega), List.getElem?_append_left (by omega), hl]
    · rw [List.getElem?_append_right (by rw [List.length_append]; omega), List.getElem?_drop, List.length_append, hl]
      congr 1
      omega

theorem idx_lt {i i0 w j : Nat} (h : i < i0) (hj : j < w) : i * w + j < i0 * w := by
  have : (i + 1) * w ≤ i0 * w := Nat.mul_le_mul_right _ h
  rw [Nat.add_mul] at this
  omega

theorem reps_set {q : Bool} {cs : Cells} {olds us : List Value} {ps : List PV} {i0 j0 : Nat} {K : Cells → Prop} (h : Reps c q cs olds) (hst : stC cs i0 j0 ps K) (hl : RepL c q ps us) (h1 : ∀ u ∈ us, u.oneCell' = true) :
    ∃ cs', K cs' ∧ (∀ L q, cs' ≠ .lp L q) ∧ cs'.len = cs.len ∧ cs'.w = cs.w ∧ i0 * cs.w + j0 + us.length ≤ olds.length ∧ Reps c q cs' (olds.take (i0 * cs.w + j0) ++ us ++ olds.drop (i0 * cs.w + j0 + us.length)) := by
  cases cs with
  | ints k xs =>
    cases ps with
    | nil => exact hst.elim
    | cons p ps =>
      cases ps with
      | cons => cases p <;> exact hst.elim
      | nil =>
        cases p <;> try (exact hst.elim)
        rename_i k' m
        obtain ⟨hi, rfl, rfl, hK⟩ := hst
        obtain ⟨u, us', rfl, hu, hr⟩ := hl.uncons
        have hn : us' = [] := by have := hr.1; simpa using this.symm
        subst hn
        cases hu
        have hlen := h.1
        simp only [Cells.len, Cells.w, Nat.mul_one] at hlen
        have hb : i0 * (Cells.ints k' xs).w + 0 + [Value.int k' m].length ≤ olds.length := by simp [Cells.w]; omega
        refine ⟨_, hK, (fun _ _ h => by cases h), by simp [Cells.len], rfl, hb, ⟨?_, fun i j hi' hj => ?_⟩⟩
        · simp [Cells.len, Cells.w] at *; omega
        · have hj0 : j = 0 := by simp [Cells.w] at hj; omega
          subst hj0
          rw [splice_at _ _ _ _ hb]
          simp only [Cells.len, List.length_set] at hi'
          simp only [Cells.w, Nat.mul_one, Nat.add_zero, List.length_cons, List.length_nil]
          obtain ⟨v, h2, h3, h4⟩ := h.2 i 0 hi' (by simp [Cells.w])
          simp only [Cells.w, Nat.mul_one, Nat.add_zero] at h2
          by_cases he : i = i0
          · subst he
            refine ⟨.int k' m, by simp, ?_, rfl⟩
            simp [Cells.get, hi]
            exact .int ..
          · refine ⟨v, ?_, ?_, h4⟩
            · split
              · exact h2
              · rw [if_neg (by omega)]; exact h2
            · simp only [Cells.get, List.getD_eq_getElem?_getD] at h3 ⊢
              rw [List.getElem?_set_ne (fun e => he e.symm)]
              exact h3
  | lp L ps => exact hst.elim
  | rows w rs =>
    obtain ⟨hi, hj, hrow, hone, hK⟩ := hst
    have hul : us.length = ps.length := hl.1.symm
    have hlen := h.1
    simp only [Cells.len, Cells.w] at hlen
    have hb : i0 * w + j0 + us.length ≤ olds.length := by
      have h5 : (i0 + 1) * w ≤ rs.length * w := Nat.mul_le_mul_right _ hi
      rw [Nat.add_mul] at h5
      omega
    refine ⟨_, hK, (fun _ _ h => by cases h), by simp [Cells.len], rfl, hb, ⟨?_, fun i j hi' hj' => ?_⟩⟩
    · simp only [List.length_append, List.length_take, List.length_drop, Cells.len, Cells.w, List.length_set] at *
      omega
    · simp only [Cells.len, List.length_set, Cells.w] at hi' hj'
      show ∃ v, (olds.take (i0 * w + j0) ++ us ++ olds.drop (i0 * w + j0 + us.length))[i * w + j]? = some v ∧ _
      rw [splice_at _ _ _ _ hb]
      obtain ⟨v, h2, h3, h4⟩ := h.2 i j hi' hj'
      simp only [Cells.w] at h2
      by_cases he : i = i0
      · subst he
        have hget : (Cells.rows w (rs.set i ((rs.getD i []).take j0 ++ ps ++ (rs.getD i []).drop (j0 + ps.length)))).get i j = (((rs.getD i []).take j0 ++ ps ++ (rs.getD i []).drop (j0 + ps.length))[j]?).getD .any := by
          simp only [Cells.get, List.getD_eq_getElem?_getD]
          rw [List.getElem?_set_self hi]
          rfl
        rw [hget, splice_at _ _ _ _ (by rw [hrow]; exact hj)]
        by_cases ha : j < j0
        · rw [if_pos (by omega), if_pos ha]
          exact ⟨v, h2, by simpa [Cells.get] using h3, h4⟩
        · by_cases hbb : j < j0 + ps.length
          · have e1 : us[j - j0]? = some us[j - j0] := List.getElem?_eq_getElem (by omega)
            have e2 : ps[j - j0]? = some ps[j - j0] := List.getElem?_eq_getElem (by omega)
            rw [if_neg (by omega), if_pos (by omega), if_neg ha, if_pos hbb, show i * w + j - (i * w + j0) = j - j0 by omega]
            refine ⟨_, e1, ?_, h1 _ (List.getElem_mem _)⟩
            rw [e2]
            exact hl.2 _ _ _ e2 e1
          · rw [if_neg (by omega), if_neg (by omega), if_neg ha, if_neg hbb]
            exact ⟨v, h2, by simpa [Cells.get] using h3, h4⟩
      · have hget : (Cells.rows w (rs.set i0 ((rs.getD i0 []).take j0 ++ ps ++ (rs.getD i0 []).drop (j0 + ps.length)))).get i j = (Cells.rows w rs).get i j := by
          simp only [Cells.get, List.getD_eq_getElem?_getD]
          rw [List.getElem?_set_ne (fun e => he e.symm)]
        rw [hget]
        refine ⟨v, ?_, h3, h4⟩
        rcases Nat.lt_or_gt_of_ne he with hlt | hlt
        · have := idx_lt hlt hj'
          rw [if_pos (by omega)]
          exact h2
        · have := idx_lt hlt (show j0 < w + 1 by omega)
          have h6 : (i0 + 1) * w ≤ i * w := Nat.mul_le_mul_right _ hlt
          rw [Nat.add_mul] at h6
          rw [if_neg (by omega), if_neg (by omega)]
          exact h2
end Go.Pv


namespace Go.Pv
set_option linter.unusedVariables false
set_option linter.unusedSimpArgs false
open Go Go.RowKit
variable {P : Program} {T : Ty} {o : Oper} {a : Act} {c : Cx} {B n : Nat} {tm : Nat → PV} {K : PV → Eff → Prop}

theorem grown_setRow (w : World) (g : Nat) (cs : Array Value) : w.grownBy (w.setRow g cs) (some g) := by
  refine ⟨rfl, rfl, rfl, by simp [World.setRow], fun k _ hk => setRow_other w g k cs (fun e => hk (by rw [e]))⟩
theorem eff_other : ∀ (e : Eff) (H : Nat → Option Blk) (id : Nat), (∀ p ∈ e, p.1 ≠ id) → e.on H id = H id
  | [], _, _, _ => rfl
  | (i, b) :: r, H, id, h => by
    show Eff.on r (put H i b) id = H id
    rw [eff_other r _ id (fun p hp => h p (List.mem_cons_of_mem _ hp)), put_ne _ _ (h (i, b) (by simp))]

/-- Some cells of a block of the call's own are written. -/
theorem upd_cells (hok : HeapOk c B) {id : Nat} {b : Blk} (hb : c.H id = some b) {g : Nat} (hg : blkOf (c.loc id) = some g) {i j : Nat} {ps : List PV} {us : List Value} {K : Cells → Prop} (hst : stC b.cs i j ps K)
    (hl : RepL c (!b.box) ps us) (h1 : ∀ u ∈ us, u.oneCell' = true) :
    ∃ cs' w' c', K cs' ∧ (storeCells ⟨g, i * b.cs.w + j, none⟩ us).run P c.w = .ok () w' ∧ c'.w = w' ∧ Post c c' B [(id, some { b with cs := cs' })] := by
  have hbk := (hok.ok id b hb).2
  have hne : ∀ L q, b.cs ≠ .lp L q := fun L q e => by rw [e] at hst; exact hst.elim
  unfold BlkOk at hbk
  rcases Bool.eq_false_or_eq_true b.box with hbox | hbox
  · rw [hbox] at hbk hl
    obtain ⟨g', vs, T', hV, hB, hh, hr⟩ := hbk
    have hgg : g' = g := by rw [hV] at hg; simpa [blkOf] using hg
    subst hgg
    obtain ⟨cs', hK, hnl, hlen, hw, hfit, hr'⟩ := reps_set hr hst hl h1
    have hrun := run_storeCells_at P g' (i * b.cs.w + j) T' us 0 (List.toArray vs) c.w (hh.row hne) (by simpa using hfit) h1
    simp only [Nat.add_zero, List.size_toArray] at hrun
    obtain ⟨c', hcw, _, hpost⟩ := post_upd (w' := c.w.setRow g' (vs.take (i * b.cs.w + j) ++ us ++ vs.drop (i * b.cs.w + j + us.length)).toArray) (V' := c.loc id) (blk' := { b with cs := cs' }) hok hb (by rw [hg]; exact grown_setRow _ _ _) (by rw [hlen]; exact Nat.le_refl _) hw rfl (fun _ => rfl) (fun g h => .inl h)
      (fun c' hle hcw => by
        unfold BlkOk
        rw [if_pos hbox]
        refine ⟨g', _, T', hV, hB, Hb.mk ?_ hnl, hr'.mono hle⟩
        rw [hcw]
        exact setRow_heap c.w g' _ _ T' (0, 0) (hh.row hne))
    exact ⟨cs', _, c', hK, hrun, hcw, hpost⟩
  · rw [hbox] at hbk hl
    obtain ⟨vs, ho, hr⟩ := hbk
    obtain ⟨cs', hK, hnl, hlen, hw, hfit, hr'⟩ := reps_set hr hst hl h1
    rcases ho.2 with ⟨hV, _⟩ | ⟨g', cap, cur, hV, hB, hh, hnc, hcm, hcs, htake⟩
    · rw [hV] at hg; cases hg
    · have hgg : g' = g := by rw [hV] at hg; simpa [blkOf] using hg
      subst hgg
      have hcl : b.cs.len * b.cs.w ≤ cur.size := by rw [hcs]; exact Nat.mul_le_mul_right _ hnc
      have hvl := hr.1
      have hrun := run_storeCells_at P g' (i * b.cs.w + j) b.e us 0 cur c.w hh (by omega) h1
      simp only [Nat.add_zero] at hrun
      obtain ⟨c', hcw, _, hpost⟩ := post_upd (w' := c.w.setRow g' (cur.toList.take (i * b.cs.w + j) ++ us ++ cur.toList.drop (i * b.cs.w + j + us.length)).toArray) (V' := c.loc id) (blk' := { b with cs := cs' }) hok hb (by rw [hg]; exact grown_setRow _ _ _) (by rw [hlen]; exact Nat.le_refl _) hw rfl (fun _ => rfl) (fun g h => .inl h)
        (fun c' hle hcw => by
          unfold BlkOk
          rw [if_neg (by simp [hbox])]
          refine ⟨vs.take (i * b.cs.w + j) ++ us ++ vs.drop (i * b.cs.w + j + us.length), ⟨?_, .inr ⟨g', cap, (cur.toList.take (i * b.cs.w + j) ++ us ++ cur.toList.drop (i * b.cs.w + j + us.length)).toArray, ?_, hB, ?_, ?_, hcm, ?_, ?_⟩⟩, hr'.mono hle⟩
          · rw [hr'.1]
          · rw [hV, hlen]
          · rw [hcw]
            exact setRow_heap c.w g' _ _ b.e (0, 0) hh
          · rw [hlen]; exact hnc
          · simp only [List.size_toArray, List.length_append, List.length_take, List.length_drop, Array.length_toList, hw]
            omega
          · rw [← htake]
            simp only [hlen, hw]
            apply List.ext_getElem?
            intro k
            have hb1 : i * b.cs.w + j + us.length ≤ cur.toList.length := by simp; omega
            have hb2 : i * b.cs.w + j + us.length ≤ (cur.toList.take (b.cs.len * b.cs.w)).length := by rw [htake]; exact hfit
            rw [splice_at _ _ _ _ hb2]
            by_cases hk : k < b.cs.len * b.cs.w
            · rw [List.getElem?_take_of_lt hk, splice_at _ _ _ _ hb1, List.getElem?_take_of_lt hk]
            · rw [List.getElem?_eq_none (by simp; omega)]
              rw [if_neg (by omega), if_neg (by omega), List.getElem?_eq_none (by simp; omega)])
      exact ⟨cs', _, c', hK, hrun, hcw, hpost⟩

theorem does_store (hT : TyOk P T) (hok : HeapOk c B) {t : TypeId} {x y : Operand} (hop : o.op = .store t x y) {ti : TI} (ht : T t = some ti) {id i j tot : Nat} (hx : Rep c false (.ptr id i j tot) (a.eval x)) {q : PV} (hy : Rep c false q (a.eval y)) {b : Blk} (hb : c.H id = some b) (hl : b.cs.len = tot)
    {vs : List PV} (hc : cellsOf q = some vs) (hsz : vs.length = ti.sz) (hone : vs.all PV.one = true)
    (h1 : b.box = true → stC b.cs i j vs fun cs' => K .any [(id, some { b with cs := cs' })])
    (h2 : b.box = false → mvL c.H vs fun vs' e => (∀ p ∈ e, p.1 ≠ id) ∧ stC b.cs i j vs' fun cs' => K .any (e ++ [(id, some { b with cs := cs' })])) : Does P o a c B K := fun next Q hnext => by
  have hcl := cells_rep hc hy
  have hu : ∀ u ∈ (a.eval y).cells.toList, u.oneCell' = true := fun u hu => by
    obtain ⟨k, hk⟩ := List.getElem?_of_mem hu
    have hlt : k < vs.length := by
      have := hcl.1
      rcases Nat.lt_or_ge k vs.length with h | h
      · exact h
      · rw [List.getElem?_eq_none (by omega)] at hk; cases hk
    exact one_rep (List.all_eq_true.1 hone _ (List.getElem_mem hlt)) (hcl.2 k _ u (List.getElem?_eq_getElem hlt) hk)
  obtain ⟨g, hg, hv, _⟩ := ptr_own hok hx hb hl
  have hsize : (a.eval y).cells.size = ti.sz := by have := hcl.1; simp at this; omega
  have hex : ∀ w' : World, (storeCells ⟨g, i * b.cs.w + j, none⟩ (a.eval y).cells.toList).run P c.w = .ok () w' → (execOp a.eval o).run P c.w = .ok .skip w' := fun w' hr => by
    simp only [execOp, hop, hv, Instr.storeAt, Instr.sureAddr, storeVar, Sem.run_bind, Sem.run_pure, Result.andThen_ok, sizeOf_run hT ht, hsize, ne_eq, not_true_eq_false, if_false, hr]
  cases hbox : b.box with
  | true =>
    obtain ⟨cs', w', c', hK, hrun, hcw, hpost⟩ := upd_cells (P := P) hok hb hg (h1 hbox) (by rw [hbox]; exact hcl) hu
    unfold Oper.wp
    rw [hex w' hrun, ← hcw]
    exact hnext _ _ undef c' hK (.any ..) hpost
  | false =>
    obtain ⟨vs', e, c1, ⟨hne, hst⟩, hl1, hw1, hp1, _⟩ := mvL_ok vs _ c _ hok hcl (h2 hbox)
    have hb1 : c1.H id = some b := by rw [hp1.H, eff_other e _ id hne]; exact hb
    have hg1 : blkOf (c1.loc id) = some g := by
      obtain ⟨b0, h3, h4, h5, h6, h7⟩ := hp1.le.ids id b (hok.ok id b hb).1 hb1
      rw [hb] at h3
      cases h3
      rw [h7 rfl]
      exact hg
    obtain ⟨cs', w', c', hK, hrun, hcw, hpost⟩ := upd_cells (P := P) hp1.heap hb1 hg1 hst (by rw [hbox]; exact hl1) hu
    rw [hw1] at hrun
    unfold Oper.wp
    rw [hex w' hrun, ← hcw]
    exact hnext _ _ undef c' hK (.any ..) (hp1.trans hpost)
end Go.Pv


namespace Go.Pv
set_option linter.unusedVariables false
set_option linter.unusedSimpArgs false
open Go Go.RowKit
variable {P : Program} {T : Ty} {o : Oper} {a : Act} {c : Cx} {B n : Nat} {tm : Nat → PV} {K : PV → Eff → Prop}

/-- A slice that may be read: what its value is. -/
theorem rdS_ok (hok : HeapOk c B) {p : PV} {v : Value} {K : Cells → Prop} (hp : Rep c false p v) (h : rdS c.H p K) :
    ∃ cs, K cs ∧ ((cs.len = 0 ∧ ∃ A cp, v = .slice A 0 cp) ∨ (0 < cs.len ∧ ∃ b off cp, v = .slice (some ⟨b, off, none⟩) cs.len cp ∧ cs.len ≤ cp ∧ At c true cs b off ∧ b < c.w.heap.size)) := by
  cases p <;> try (exact h.elim)
  case ro cs =>
    refine ⟨cs, h, ?_⟩
    rcases ro_at hp with ⟨h0, h1⟩ | ⟨b, off, cp, hv, hcp, hc, hb, hlt⟩
    · exact .inl ⟨h0, h1⟩
    · by_cases h0 : cs.len = 0
      · exact .inl ⟨h0, _, cp, by rw [hv, h0]⟩
      · exact .inr ⟨by omega, b, off, cp, hv, hcp, hc, hlt⟩
  case nil cs =>
    refine ⟨cs, h, .inl ?_⟩
    cases hp with
    | nil _ _ A h0 => exact ⟨h0, A, 0, rfl⟩
  case sl id off m tot =>
    unfold rdS at h
    dsimp only at h
    split at h
    · rename_i b hb
      obtain ⟨hl, h⟩ := h
      refine ⟨_, h, ?_⟩
      by_cases h0 : m = 0
      · subst h0
        cases hp with
        | sl _ _ _ _ _ ha hs hk =>
          obtain ⟨A, cp, hv, _⟩ := hs
          have : (b.cs.sub off 0).len = 0 := by cases b.cs <;> simp [Cells.sub, Cells.len]
          exact .inl ⟨this, A, cp, hv⟩
      · obtain ⟨g, cp, hg, hv, _, hle, hcp, hbox⟩ := sl_own hok hp hb hl (by omega)
        have hbk := (hok.ok id b hb).2
        unfold BlkOk at hbk
        rw [hbox] at hbk
        obtain ⟨vs, ho, hrr⟩ := hbk
        have h1 : At c true b.cs g 0 := hrr.at_ (w := c.w) (row_cells ho hg)
        have hlen := sub_len b.cs off m (by omega)
        refine .inr ⟨by omega, g, off * b.cs.w, cp, by rw [hv, hlen], by omega, fun i j hi hj => ?_, ((hok.ok id b hb).2.lt hg).2⟩
        rw [sub_w] at hj
        obtain ⟨v, h2, h3, h4⟩ := h1 (off + i) j (by omega) hj
        refine ⟨v, ?_, by rw [sub_get b.cs off m i j (by omega)]; exact h3, h4⟩
        rw [sub_w, ← Nat.add_assoc, ← Nat.add_mul]
        rw [Nat.zero_add] at h2
        exact h2
    · exact h.elim

/-- The values of cells, as a list. -/
theorem at_list {q : Bool} {cs : Cells} {b off : Nat} (h : At c q cs b off) : ∃ us : List Value, us.length = cs.len * cs.w ∧ (∀ j u, us[j]? = some u → c.w.cell? ((⟨b, off, none⟩ : Addr).add j) = some u) ∧ (∀ u ∈ us, u.oneCell' = true) ∧ Reps c q cs us := by
  have hex : ∀ k, ∃ u, k < cs.len * cs.w → c.w.cell? ⟨b, off + k, none⟩ = some u ∧ Rep c q (cs.get (k / cs.w) (k % cs.w)) u ∧ u.oneCell' = true := fun k => by
    by_cases hk : k < cs.len * cs.w
    · have hw : 0 < cs.w := by
        rcases Nat.eq_zero_or_pos cs.w with h | h
        · rw [h] at hk; omega
        · exact h
      obtain ⟨u, h1⟩ := h (k / cs.w) (k % cs.w) (Nat.div_lt_of_lt_mul (by rw [Nat.mul_comm]; exact hk)) (Nat.mod_lt _ hw)
      rw [Nat.mul_comm, Nat.div_add_mod] at h1
      exact ⟨u, fun _ => h1⟩
    · exact ⟨undef, fun h => absurd h hk⟩
  let f : Nat → Value := fun k => Classical.choose (hex k)
  have hf : ∀ k, k < cs.len * cs.w → c.w.cell? ⟨b, off + k, none⟩ = some (f k) ∧ Rep c q (cs.get (k / cs.w) (k % cs.w)) (f k) ∧ (f k).oneCell' = true := fun k => Classical.choose_spec (hex k)
  refine ⟨(List.range (cs.len * cs.w)).map f, by simp, fun j u hu => ?_, fun u hu => ?_, by simp, fun i j hi hj => ?_⟩
  · have hj : j < cs.len * cs.w := by
      rcases Nat.lt_or_ge j (cs.len * cs.w) with h | h
      · exact h
      · rw [List.getElem?_eq_none (by simpa using h)] at hu; cases hu
    simp [hj] at hu
    subst hu
    rw [Addr.add_lit]
    exact (hf j hj).1
  · obtain ⟨k, hk, rfl⟩ := List.mem_map.1 hu
    exact (hf k (List.mem_range.1 hk)).2.2
  · have hk : i * cs.w + j < cs.len * cs.w := by have := idx_lt hi hj; omega
    refine ⟨f (i * cs.w + j), by simp [hk], ?_, (hf _ hk).2.2⟩
    have := (hf _ hk).2.1
    have e1 : (i * cs.w + j) / cs.w = i := by rw [Nat.mul_comm i, Nat.mul_add_div (by omega), Nat.div_eq_of_lt hj, Nat.add_zero]
    have e2 : (i * cs.w + j) % cs.w = j := by rw [Nat.mul_comm i, Nat.mul_add_mod, Nat.mod_eq_of_lt hj]
    rwa [e1, e2] at this

theorem reps_app {q : Bool} {cs ds : Cells} {us vs : List Value} {K : Cells → Prop} (h1 : Reps c q cs us) (h2 : Reps c q ds vs) (h : apC cs ds K) : ∃ es, K es ∧ es.len = cs.len + ds.len ∧ es.w = cs.w ∧ ds.w = cs.w ∧ Reps c q es (us ++ vs) ∧ (ds.len = 0 → es = cs) := by
  have key : ∀ es : Cells, es.len = cs.len + ds.len → es.w = cs.w → ds.w = cs.w → (∀ i j, i < cs.len → es.get i j = cs.get i j) → (∀ i j, i < ds.len → es.get (cs.len + i) j = ds.get i j) → Reps c q es (us ++ vs) := fun es e1 e2 e3 e4 e5 => by
    refine ⟨by rw [List.length_append, h1.1, h2.1, e1, e2, e3, Nat.add_mul], fun i j hi hj => ?_⟩
    rw [e2] at hj ⊢
    rw [e1] at hi
    by_cases hc : i < cs.len
    · obtain ⟨v, h3, h4, h5⟩ := h1.2 i j hc hj
      refine ⟨v, ?_, by rw [e4 i j hc]; exact h4, h5⟩
      rw [List.getElem?_append_left (by rw [h1.1]; have := idx_lt hc hj; omega)]
      exact h3
    · obtain ⟨k, rfl⟩ : ∃ k, i = cs.len + k := ⟨i - cs.len, by omega⟩
      obtain ⟨v, h3, h4, h5⟩ := h2.2 k j (by omega) (by rw [e3]; exact hj)
      refine ⟨v, ?_, by rw [e5 k j (by omega)]; exact h4, h5⟩
      rw [List.getElem?_append_right (by rw [h1.1, Nat.add_mul]; omega), h1.1, Nat.add_mul]
      rw [e3] at h3
      rw [show cs.len * cs.w + k * cs.w + j - cs.len * cs.w = k * cs.w + j by omega]
      exact h3
  unfold apC at h
  split at h
  · rename_i k xs k' ys
    obtain ⟨rfl, hK⟩ := h
    refine ⟨_, hK, by simp [Cells.len], rfl, rfl, key _ (by simp [Cells.len]) rfl rfl (fun i j hi => ?_) (fun i j hi => ?_), fun h0 => by simp [Cells.len] at h0; simp [h0]⟩
    · simp only [Cells.len, Cells.get, List.getD_eq_getElem?_getD] at *
      rw [List.getElem?_append_left hi]
    · simp only [Cells.len, Cells.get, List.getD_eq_getElem?_getD] at *
      rw [List.getElem?_append_right (by omega), Nat.add_sub_cancel_left]
  · rename_i w rs w' rs'
    obtain ⟨rfl, hK⟩ := h
    refine ⟨_, hK, by simp [Cells.len], rfl, rfl, key _ (by simp [Cells.len]) rfl rfl (fun i j hi => ?_) (fun i j hi => ?_), fun h0 => by simp [Cells.len] at h0; simp [h0]⟩
    · simp only [Cells.len, Cells.get, List.getD_eq_getElem?_getD] at *
      rw [List.getElem?_append_left hi]
    · simp only [Cells.len, Cells.get, List.getD_eq_getElem?_getD] at *
      rw [List.getElem?_append_right (by omega), Nat.add_sub_cancel_left]
  · exact h.elim

/-- Nothing is appended. -/
theorem run_append_zero (hT : TyOk P T) {t e : TypeId} {tt te : TI} (ht : T t = some tt) (hk : tt.k = .slice e) (hte : T e = some te) (ty : TypeId) (A : Option Addr) (m cp : Nat) (hm : m ≤ cp) (A' : Option Addr) (cp' : Nat) (w : World) :
    (Builtin.append_ #[t, t] ty #[.slice A m cp, .slice A' 0 cp']).run P w = .ok (.slice A m cp) w := by
  have hu := (hT.slice t tt e ht hk).1
  have hf : ∀ s, (Builtin.firstCells s 0 (.slice A' 0 cp')).run P w = .ok #[] w := fun s => by
    cases A' with
    | none => rfl
    | some x => simp [Builtin.firstCells, loadCells, loadCellsFrom]
  simp [Builtin.append_, run_underlying hu, sizeOf_run hT hte, Builtin.lenOf, hm, hf]
  cases A with
  | none => rfl
  | some x => simp [storeCells]

theorem app_row (w : World) (hB : B ≤ w.heap.size) (e : TypeId) (i : TypeInfo) (z : Value) (hzs : z.cells.size = i.size) (xs news : List Value) (n m old : Nat) (hx : xs.length = n * i.size) (hl : news.length = m * i.size) (h63 : n + m ≤ maxLen) :
    (w.drew.alloc (.cells (xs.toArray ++ news.toArray ++ Builtin.zeroCells z.cells (grownCap w (n + m) old e - (n + m))) e)).ownsRow B e i.size (.slice (some ⟨w.heap.size, 0, none⟩) (n + m) (grownCap w (n + m) old e)) (n + m) (xs ++ news) ∧
    w.grownBy (w.drew.alloc (.cells (xs.toArray ++ news.toArray ++ Builtin.zeroCells z.cells (grownCap w (n + m) old e - (n + m))) e)) none := by
  have hlen : (xs ++ news).length = (n + m) * i.size := by rw [List.length_append, hx, hl, Nat.add_mul]
  have hge := grownCap_ge w (n + m) old e
  have hcm : grownCap w (n + m) old e ≤ maxLen := grownCap_le_maxLen w (n + m) old e h63
  refine ⟨⟨hlen, .inr ⟨w.heap.size, _, _, rfl, hB, heap_alloc_new w.drew _, hge, hcm, ?_, ?_⟩⟩, ⟨rfl, rfl, rfl, by simp, fun k hk _ => heap_alloc_old w.drew _ hk⟩⟩
  · simp only [Array.size_append, List.size_toArray, size_zeroCells, hzs, hx, hl, ← Nat.add_mul]
    congr 1
    omega
  · simp only [Array.toList_append, List.append_assoc]
    rw [← List.append_assoc, ← hlen]
    exact List.take_left

theorem app_run0 (hT : TyOk P T) {t e : TypeId} {tt te : TI} (ht : T t = some tt) (hk : tt.k = .slice e) (hte : T e = some te) (hsz : 0 < te.sz) (ty : TypeId) (w : World) (hB : B ≤ w.heap.size) (A : Option Addr)
    (ad : Addr) (m cp : Nat) (news : List Value) (hl : news.length = m * te.sz) (hnews : ∀ j u, news[j]? = some u → w.cell? (ad.add j) = some u) (h1 : ∀ u ∈ news, u.oneCell' = true)
    (hm : 0 < m) (hb1 : m * te.bytes ≤ 140737488355328) (hb2 : m ≤ 140737488355328) :
    ∃ V' w', (Builtin.append_ #[t, t] ty #[.slice A 0 0, .slice (some ad) m cp]).run P w = .ok V' w' ∧ w'.ownsRow B e te.sz V' m news ∧ w.grownBy w' none ∧ ∀ g, blkOf V' = some g → w.heap.size ≤ g := by
  have hu := (hT.slice t tt e ht hk).1
  obtain ⟨i, hi, hsize, hby, z, hz, _, hzs⟩ := hT.info e te hte
  rw [← hsize] at hl hsz hzs ⊢
  rw [← hby] at hb1
  have h63 : 0 + m ≤ maxLen := by unfold maxLen; omega
  obtain ⟨h2, h3⟩ := app_row (B := B) w hB e i z hzs [] news 0 m 0 (by simp) hl h63
  cases A with
  | none =>
    have hr := run_append_nil (P := P) w t ty e i z hu hi hz ad m cp news hl hnews hm (by omega) (by omega)
    simp only [Nat.zero_add, List.nil_append, Array.empty_append] at h2 h3 ⊢
    exact ⟨_, _, hr, h2, h3, fun g hg => by simp [blkOf] at hg; omega⟩
  | some x =>
    have hr := run_append_grow (P := P) w t ty e i z hu hi hz x 0 0 [] (by simp) (by simp) ad m cp news hl hnews (by omega) (by omega) (by rw [Nat.zero_add, nextslicecap_zero hm]; omega)
    simp only [Nat.zero_add, List.nil_append] at h2 h3 hr ⊢
    exact ⟨_, _, hr, h2, h3, fun g hg => by simp [blkOf] at hg; omega⟩

theorem app_run1 (hT : TyOk P T) {t e : TypeId} {tt te : TI} (ht : T t = some tt) (hk : tt.k = .slice e) (hte : T e = some te) (hsz : 0 < te.sz) (ty : TypeId) (w : World) (hB : B ≤ w.heap.size) (v : Value) (n : Nat) (xs : List Value)
    (ho : w.ownsRow B e te.sz v n xs) (hne : v ≠ .slice none 0 0) (ad : Addr) (m cp : Nat) (news : List Value) (hl : news.length = m * te.sz) (hnews : ∀ j u, news[j]? = some u → w.cell? (ad.add j) = some u) (h1 : ∀ u ∈ news, u.oneCell' = true)
    (hm : 0 < m) (hb1 : (n + m) * te.bytes ≤ 140737488355328) (hb2 : n + m ≤ 140737488355328) :
    ∃ V' w', (Builtin.append_ #[t, t] ty #[v, .slice (some ad) m cp]).run P w = .ok V' w' ∧ w'.ownsRow B e te.sz V' (n + m) (xs ++ news) ∧ w.grownBy w' (blkOf v) ∧ ∀ g, blkOf V' = some g → blkOf v = some g ∨ w.heap.size ≤ g := by
  have hu := (hT.slice t tt e ht hk).1
  obtain ⟨i, hi, hsize, hby, z, hz, _, hzs⟩ := hT.info e te hte
  rw [← hsize] at hl hsz hzs ho ⊢
  rw [← hby] at hb1
  have h63 : n + m ≤ maxLen := by unfold maxLen; omega
  rcases ho.2 with ⟨rfl, _⟩ | ⟨g, cap, cur, rfl, hbg, hg, hnc, hcm, hcs, htake⟩
  · exact absurd rfl hne
  · have hlen : (xs ++ news).length = (n + m) * i.size := by rw [List.length_append, ho.1, hl, Nat.add_mul]
    by_cases hroom : n + m ≤ cap
    · have hfit : n * i.size + news.length ≤ cur.size := by rw [hl, hcs, ← Nat.add_mul]; exact Nat.mul_le_mul_right _ hroom
      have hr := run_append_room (P := P) w t ty e i hu hi g n cap cur hg ad m cp news hl hnews h1 hroom hfit
      refine ⟨_, _, hr, ⟨hlen, .inr ⟨g, cap, _, rfl, hbg, setRow_heap w g cur _ e _ hg, hroom, hcm, ?_, ?_⟩⟩, ?_, fun g' hg' => .inl (by simpa [blkOf] using hg')⟩
      · simp only [List.size_toArray, List.length_append, List.length_take, List.length_drop, Array.length_toList]
        omega
      · rw [htake, ← hlen]
        exact List.take_left
      · exact grown_setRow _ _ _
    · have holds : ∀ j u, xs[j]? = some u → w.cell? ((⟨g, 0, none⟩ : Addr).add j) = some u := ho.cells (g := g) rfl
      have hr := run_append_grow (P := P) w t ty e i z hu hi hz ⟨g, 0, none⟩ n cap xs ho.1 holds ad m cp news hl hnews (by omega) (by omega) (growslice_fits (by omega) hb1)
      obtain ⟨h2, h3⟩ := app_row (B := B) w hB e i z hzs xs news n m cap ho.1 hl h63
      exact ⟨_, _, hr, h2, ⟨h3.os, h3.tape, h3.output, h3.size, fun k hk _ => h3.block k hk (fun e => by cases e)⟩, fun g' hg' => .inr (by simp [blkOf] at hg'; omega)⟩

theorem post_same (hok : HeapOk c B) {id : Nat} {b : Blk} (hb : c.H id = some b) : Post c c B [(id, some b)] := by
  refine ⟨.refl c, hok, ?_, fun id' => ?_, Below.refl _ _, fun _ _ h => h, fun b h => ⟨h, rfl, fun h => h⟩, fun _ h => .inl h⟩
  · funext j
    show c.H j = put c.H id (some b) j
    rw [put_at]
    split
    · rename_i h; rw [← h]; exact hb
    · rfl
  · refine ⟨fun h => .inl h, fun h => h.elim (fun h => h) fun h => ?_⟩
    simp at h
    subst h
    exact (hok.ok id' b hb).1

theorem does_append (hT : TyOk P T) (hok : HeapOk c B) (hn : ¬ c.A n) {s x : Operand} {t e : TypeId} {tt te : TI} (fin : ∀ {V : Value} {w' : World}, (Builtin.append_ #[t, t] o.type #[a.eval s, a.eval x]).run P c.w = .ok V w' → (execOp a.eval o).run P c.w = .ok (.value V) w') (ht : T t = some tt) (hk : tt.k = .slice e) (hte : T e = some te) (hsz : 0 < te.sz)
    {ps px : PV} (hs : Rep c false ps (a.eval s)) (hx : Rep c false px (a.eval x))
    (h : apS c.H n e te ps px K) : Does P o a c B K := fun next Q hnext => by
  cases ps <;> try (exact h.elim)
  case nil cs0 =>
    obtain ⟨cs, ⟨hw, hb1, hb2, hK⟩, hx'⟩ := rdS_ok hok hx h
    have hv : ∃ A, a.eval s = .slice A 0 0 := by
      generalize a.eval s = v at hs
      cases hs
      exact ⟨_, rfl⟩
    obtain ⟨A, hv⟩ := hv
    rcases hx' with ⟨h0, A', cp', hxv⟩ | ⟨h0, b, off, cp, hxv, hcp, hat, hlt⟩
    · have hr := fin (by rw [hv, hxv]; exact run_append_zero hT ht hk hte o.type A 0 0 (Nat.le_refl 0) A' cp' c.w)
      obtain ⟨c', hcw, hloc, hpost⟩ := post_new (id := n) (V' := .slice none 0 0) (blk' := ⟨cs, false, e⟩) (w' := c.w) hok hn (World.grownBy.refl c.w none) (fun g hg => by cases hg)
        (fun c' hle hw' => by
          unfold BlkOk
          rw [if_neg (by simp)]
          refine ⟨[], ?_, by simp [h0], fun i j hi => by have hi' : i < cs.len := hi; omega⟩
          show c'.w.ownsRow B e cs.w (.slice none 0 0) cs.len []
          rw [h0]
          exact World.ownsRow_nil c'.w B e cs.w)
      unfold Oper.wp
      rw [hr, ← hcw]
      refine hnext _ _ _ c' hK ?_ hpost
      rw [h0]
      refine .sl n 0 0 0 _ ((hpost.A n).2 (.inr (by simp))) ⟨A, 0, rfl, Nat.le_refl 0⟩ fun bl hb => ?_
      rw [hpost.H] at hb
      simp [Eff.on, put_same] at hb
      subst hb
      refine ⟨rfl, Nat.zero_le _, fun _ => ⟨Nat.le_refl 0, fun _ => .inr ⟨by rw [hloc, put_same], A, rfl⟩, fun h => absurd ⟨rfl, rfl⟩ h⟩⟩
    · obtain ⟨us, hul, huc, hu1, hur⟩ := at_list hat
      obtain ⟨V', w', hrun, hown, hgr, hnew⟩ := app_run0 (B := B) hT ht hk hte hsz o.type c.w hok.base A ⟨b, off, none⟩ cs.len cp us (by rw [hul, hw]) huc hu1 h0 hb1 hb2
      rw [← hxv, ← hv] at hrun
      obtain ⟨c', hcw, hloc, hpost⟩ := post_new (id := n) (V' := V') (blk' := ⟨cs, false, e⟩) (w' := w') hok hn hgr hnew
        (fun c' hle hw' => by
          unfold BlkOk
          rw [if_neg (by simp)]
          exact ⟨us, by rw [hw']; simpa [hw] using hown, hur.mono hle⟩)
      unfold Oper.wp
      rw [fin hrun, ← hcw]
      refine hnext _ _ _ c' hK ?_ hpost
      have hshape : ∃ A cp, V' = .slice A cs.len cp ∧ cs.len ≤ cp := by
        rcases hown.2 with ⟨_, h⟩ | ⟨g, cap, cur, rfl, _, _, h, _⟩
        · omega
        · exact ⟨_, cap, rfl, h⟩
      refine .sl n 0 cs.len cs.len _ ((hpost.A n).2 (.inr (by simp))) hshape fun bl hb => ?_
      rw [hpost.H] at hb
      simp [Eff.on, put_same] at hb
      subst hb
      exact ⟨rfl, Nat.le_refl _, fun _ => ⟨by simp, fun _ => .inl (by rw [hloc, put_same]), fun h => absurd ⟨rfl, rfl⟩ h⟩⟩
  case sl id off m tot =>
    obtain ⟨rfl, rfl, h⟩ := h
    split at h
    · exact h.elim
    · rename_i b hb
      obtain ⟨hl, hbox, hbe, hbw, h⟩ := h
      obtain ⟨cs, ⟨hb1, hb2, hap⟩, hx'⟩ := rdS_ok hok hx h
      have hs' := hs
      cases hs' with
      | sl _ _ _ _ _ ha hsh hkk =>
        obtain ⟨_, _, hsl⟩ := hkk b hb
        obtain ⟨_, hwh, _⟩ := hsl hl
        have hv := hwh ⟨rfl, rfl⟩
        have hbk := (hok.ok id b hb).2
        unfold BlkOk at hbk
        rw [hbox] at hbk
        obtain ⟨vs, ho, hrr⟩ := hbk
        rcases hx' with ⟨h0, A', cp', hxv⟩ | ⟨h0, bx, off, cp, hxv, hcp, hat, hlt⟩
        · obtain ⟨es, hK, e1, e2, e3, _, hes⟩ := reps_app (q := true) (c := c) hrr (ds := cs) (vs := []) ⟨by simp [h0], fun i j hi => by omega⟩ hap
          have hes := hes h0
          obtain ⟨A, cpv, hvv, hcpv⟩ := hsh
          have hr := fin (by rw [hvv, hxv]; exact run_append_zero hT ht hk hte o.type A m cpv hcpv A' cp' c.w)
          unfold Oper.wp
          rw [hr]
          have hK' : K (.sl id 0 m m) [(id, some b)] := by
            rw [hes, h0] at hK
            exact hK
          rw [← hvv]
          exact hnext _ _ _ c hK' hs (post_same hok hb)
        · obtain ⟨us, hul, huc, hu1, hur⟩ := at_list hat
          obtain ⟨es, hK, e1, e2, e3, hres, _⟩ := reps_app hrr hur hap
          have hulen : us.length = cs.len * te.sz := by rw [hul, e3, hbw]
          have hcase : ∃ V' w', (Builtin.append_ #[t, t] o.type #[a.eval s, a.eval x]).run P c.w = .ok V' w' ∧ w'.ownsRow B e te.sz V' (m + cs.len) (vs ++ us) ∧ c.w.grownBy w' (blkOf (c.loc id)) ∧ ∀ g, blkOf V' = some g → blkOf (c.loc id) = some g ∨ c.w.heap.size ≤ g := by
            rw [hbe, hbw, hl] at ho
            rw [hxv]
            by_cases hvz : c.loc id = .slice none 0 0
            · have hm0 : m = 0 := by
                rcases ho.2 with ⟨_, h⟩ | ⟨g, cap, cur, h, _⟩
                · exact h
                · rw [hvz] at h; cases h
              have hvs : vs = [] := by
                have := ho.1
                rw [hm0, Nat.zero_mul] at this
                exact List.eq_nil_of_length_eq_zero this
              have hv0 : ∃ A, a.eval s = .slice A 0 0 := by
                rcases hv with h | ⟨_, A, h⟩
                · exact ⟨none, by rw [h, hvz]⟩
                · exact ⟨A, h⟩
              obtain ⟨A, hv0⟩ := hv0
              rw [hv0, hm0, hvs, Nat.zero_add, List.nil_append]
              rw [hm0, Nat.zero_add] at hb1 hb2
              obtain ⟨V', w', h2, h3, h4, h5⟩ := app_run0 (B := B) hT ht hk hte hsz o.type c.w hok.base A ⟨bx, off, none⟩ cs.len cp us hulen huc hu1 h0 hb1 hb2
              exact ⟨V', w', h2, h3, by rw [hvz]; exact h4, fun g hg => .inr (h5 g hg)⟩
            · have hv0 : a.eval s = c.loc id := by
                rcases hv with h | ⟨h, _⟩
                · exact h
                · exact absurd h hvz
              rw [hv0]
              exact app_run1 (B := B) hT ht hk hte hsz o.type c.w hok.base (c.loc id) m vs ho hvz ⟨bx, off, none⟩ cs.len cp us hulen huc hu1 h0 hb1 hb2
          obtain ⟨V', w', hrun, hown, hgr, hnew⟩ := hcase
          have hel : es.len = m + cs.len := by rw [e1, hl]
          obtain ⟨c', hcw, hloc, hpost⟩ := post_upd (V' := V') (blk' := { b with cs := es }) (w' := w') hok hb hgr (by show b.cs.len ≤ es.len; omega) e2 rfl (fun h => by have h' : es.len = b.cs.len := h; omega) hnew
            (fun c' hle hw' => by
              unfold BlkOk
              rw [if_neg (by simp [hbox])]
              refine ⟨vs ++ us, ?_, hres.mono hle⟩
              show c'.w.ownsRow B b.e es.w V' es.len (vs ++ us)
              rw [hw', e2, hbw, hel, hbe]
              exact hown)
          unfold Oper.wp
          rw [fin hrun, ← hcw]
          refine hnext _ _ _ c' hK ?_ hpost
          have hshape : ∃ A cp, V' = .slice A (m + cs.len) cp ∧ m + cs.len ≤ cp := by
            rcases hown.2 with ⟨_, h⟩ | ⟨g, cap, cur, rfl, _, _, h, _⟩
            · omega
            · exact ⟨_, cap, rfl, h⟩
          refine .sl id 0 _ _ _ ((hpost.A id).2 (.inl ha)) hshape fun bl hbl => ?_
          rw [hpost.H] at hbl
          simp [Eff.on, put_same] at hbl
          subst hbl
          exact ⟨hbox, by show m + cs.len ≤ es.len; omega, fun _ => ⟨by simp, fun _ => .inl (by rw [hloc, put_same]), fun h => absurd ⟨rfl, rfl⟩ h⟩⟩
/-! ### copy -/
theorem reps_ints {q : Bool} {k : IntKind} {xs : List Int} {vs : List Value} (h : Reps c q (.ints k xs) vs) : vs = xs.map (Value.int k) := by
  obtain ⟨hl, hr⟩ := h
  have hl' : vs.length = xs.length := by simpa [Cells.len, Cells.w] using hl
  refine List.ext_getElem (by simp [hl']) fun i h1 h2 => ?_
  obtain ⟨v, e, hv, _⟩ := hr i 0 (by show i < xs.length; omega) (by show 0 < 1; omega)
  have e' : vs[i]? = some v := by simpa [Cells.w] using e
  have e2 : (Cells.ints k xs).get i 0 = .int k (xs[i]?.getD 0) := by simp [Cells.get, List.getD_eq_getElem?_getD]
  rw [e2] at hv
  cases hv
  rw [List.getElem?_eq_getElem h1, List.getElem?_eq_getElem (by omega)] at e'
  simpa using e'
theorem ints_reps (c : Cx) (q : Bool) (k : IntKind) (xs : List Int) : Reps c q (.ints k xs) (xs.map (Value.int k)) := by
  refine ⟨by simp [Cells.len, Cells.w], fun i j hi hj => ?_⟩
  have hj : j = 0 := by have : j < 1 := hj; omega
  subst hj
  have hi' : i < xs.length := hi
  refine ⟨.int k (xs[i]?.getD 0), ?_, ?_, rfl⟩
  · show (xs.map (Value.int k))[i * 1 + 0]? = _
    simp [hi']
  · have e2 : (Cells.ints k xs).get i 0 = .int k (xs[i]?.getD 0) := by simp [Cells.get, List.getD_eq_getElem?_getD]
    rw [e2]
    exact .int ..
theorem splice_take {α : Type} (L S : List α) (off n : Nat) (h : off + S.length ≤ n) (hn : n ≤ L.length) : (L.take off ++ S ++ L.drop (off + S.length)).take n = (L.take n).take off ++ (S ++ (L.take n).drop (off + S.length)) := by
  have hl : (L.take off ++ S).length = off + S.length := by simp; omega
  rw [List.take_append, List.take_of_length_le (by omega : (L.take off ++ S).length ≤ n), hl, List.drop_take, List.take_take, Nat.min_eq_left (by omega), List.append_assoc]
theorem does_copy (hT : TyOk P T) (hok : HeapOk c B) {d s : Operand} {t u e : TypeId} {tt te : TI} (fin : ∀ {V : Value} {w' : World}, (Builtin.copy_ #[t, u] o.type #[a.eval d, a.eval s]).run P c.w = .ok V w' → (execOp a.eval o).run P c.w = .ok (.value V) w') (ht : T t = some tt) (hk : tt.k = .slice e) (hte : T e = some te)
    {pd ps : PV} (hd : Rep c false pd (a.eval d)) (hs : Rep c false ps (a.eval s)) (h : cpS c.H te pd ps K) : Does P o a c B K := fun next Q hnext => by
  cases pd <;> try (exact h.elim)
  case sl id off m tot =>
    simp only [cpS] at h
    cases hb : c.H id with
    | none => rw [hb] at h; exact h.elim
    | some b =>
      rw [hb] at h
      obtain ⟨hl, hot, hbox, hsz, h⟩ := h
      obtain ⟨cs, hcp, hx'⟩ := rdS_ok hok hs h
      obtain ⟨bcs, bbox, be⟩ := b
      dsimp only at hbox hl hcp
      subst hbox
      cases bcs <;> cases cs <;> try (exact hcp.elim)
      rename_i k xs k' ys
      obtain ⟨rfl, hK⟩ := hcp
      have hl : xs.length = tot := hl
      have hu := (hT.slice t tt e ht hk).1
      obtain ⟨i0, hi0, hi1, _⟩ := hT.info e te hte
      have hi : (P.info? e).map (·.size) = some 1 := by rw [hi0]; simp [hi1, hsz]
      cases hd with
      | sl _ _ _ _ _ ha hsh hkk =>
      obtain ⟨_, _, hsl⟩ := hkk _ hb
      obtain ⟨hle, hwh, hpt⟩ := hsl hl
      have hbk := (hok.ok id _ hb).2
      unfold BlkOk at hbk
      rw [if_neg (by simp)] at hbk
      obtain ⟨vs, ho, hrr⟩ := hbk
      have hvs := reps_ints hrr
      by_cases hk0 : min m ys.length = 0
      · obtain ⟨A, cp, hv, _⟩ := hsh
        have hsv : ∃ A' cp', a.eval s = .slice A' ys.length cp' := by
          rcases hx' with ⟨h0, A', cp', hxv⟩ | ⟨h0, bx, ox, cpx, hxv, _⟩
          · have h0 : ys.length = 0 := h0
            exact ⟨A', cp', by rw [hxv, h0]⟩
          · exact ⟨_, cpx, hxv⟩
        obtain ⟨A', cp', hxv⟩ := hsv
        have hrun := run_copy_none (P := P) c.w t u o.type e A A' m cp ys.length cp' hu hi (by rw [Nat.min_comm] at hk0; exact hk0)
        rw [← hv, ← hxv] at hrun
        unfold Oper.wp
        rw [fin hrun]
        have ht0 : ys.take m = [] := by
          apply List.eq_nil_of_length_eq_zero
          rw [List.length_take]
          exact hk0
        rw [hk0, ht0, Nat.add_zero, List.nil_append, List.take_append_drop] at hK
        exact hnext _ _ _ c hK (.int ..) (post_same hok hb)
      · have hy0 : 0 < ys.length := by omega
        rcases hx' with ⟨h0, _⟩ | ⟨h0, bx, ox, cpx, hxv, hcpx, hat, hlt⟩
        · have h0 : ys.length = 0 := h0
          omega
        obtain ⟨us, hul, huc, hu1, hur⟩ := at_list hat
        have hus := reps_ints hur
        rcases ho.2 with ⟨hV, h0⟩ | ⟨g, cap, cur, hV, hB, hg, hn, hcap, hcur, htake⟩
        · have h0 : xs.length = 0 := h0
          omega
        have hxl : xs.length ≤ cap := hn
        have hcur : cur.size = cap * 1 := hcur
        have htake : cur.toList.take (xs.length * 1) = vs := htake
        have hv : ∃ cp, a.eval d = .slice (some ⟨g, off, none⟩) m cp := by
          by_cases hw : off = 0 ∧ m = tot
          · rcases hwh hw with hveq | ⟨hvn, _⟩
            · obtain ⟨rfl, rfl⟩ := hw
              exact ⟨cap, by rw [hveq, hV, ← hl]; rfl⟩
            · rw [hV] at hvn; cases hvn
          · rcases hpt hw with h | ⟨g', cp, hg', hv⟩
            · omega
            · rw [hV] at hg'
              have : g = g' := by simpa [blkOf] using hg'
              subst this
              refine ⟨cp, ?_⟩
              rw [hv]
              show Value.slice (some ⟨g, off * 1, none⟩) m cp = _
              rw [Nat.mul_one]
        obtain ⟨cp, hv⟩ := hv
        have hml : (us.take (min m ys.length)).length = min m ys.length := by
          rw [List.length_take, hus, List.length_map]
          omega
        have hrun := run_copy_row (P := P) c.w t u o.type e g off m cp ⟨bx, ox, none⟩ ys.length cpx cur be (us.take (min m ys.length)) hu hi hg (by rw [hml, Nat.min_comm])
          (fun j v hj => by
            rw [List.getElem?_take] at hj
            split at hj
            · exact huc j v hj
            · cases hj) (by rw [hml, hcur]; omega) (fun v hv => hu1 v (List.mem_of_mem_take hv))
        rw [← hv] at hrun
        have hxv' : a.eval s = .slice (some ⟨bx, ox, none⟩) ys.length cpx := hxv
        rw [← hxv', hml] at hrun
        obtain ⟨w', hw'⟩ : ∃ w', c.w.setRow g (cur.toList.take off ++ us.take (min m ys.length) ++ cur.toList.drop (off + min m ys.length)).toArray = w' := ⟨_, rfl⟩
        rw [hw'] at hrun
        have hbg : blkOf (c.loc id) = some g := by rw [hV]; rfl
        have hcl : cur.toList.length = cap := by rw [Array.length_toList, hcur, Nat.mul_one]
        have htk : us.take (min m ys.length) = (ys.take m).map (Value.int k') := by
          rw [hus, ← List.map_take]
          congr 1
          by_cases h : m ≤ ys.length
          · rw [Nat.min_eq_left h]
          · rw [Nat.min_eq_right (by omega), List.take_length, List.take_of_length_le (by omega)]
        obtain ⟨c', hcw, hloc, hpost⟩ := post_upd hok (blk' := ⟨.ints k' (xs.take off ++ (ys.take m ++ xs.drop (off + min m ys.length))), false, be⟩) (V' := c.loc id) (w' := w') hb
          (by
            rw [hbg, ← hw']
            exact ⟨rfl, rfl, rfl, by simp [World.setRow], fun j hj hne => setRow_other _ g j _ (fun e => hne (by rw [e]))⟩)
          (by show xs.length ≤ (xs.take off ++ (ys.take m ++ xs.drop (off + min m ys.length))).length; simp; omega) rfl rfl (fun _ => rfl) (fun g' hg' => .inl hg')
          (fun c' hle hcw => by
            unfold BlkOk
            rw [if_neg (by simp)]
            refine ⟨_, ?_, ints_reps c' true k' _⟩
            refine ⟨by simp [Cells.len, Cells.w], .inr ⟨g, cap, _, ?_, hB, by rw [hcw, ← hw']; exact setRow_heap _ g _ _ _ _ hg, ?_, hcap, ?_, ?_⟩⟩
            · rw [hV]
              have : (xs.take off ++ (ys.take m ++ xs.drop (off + min m ys.length))).length = xs.length := by simp; omega
              show Value.slice _ xs.length _ = Value.slice _ (xs.take off ++ (ys.take m ++ xs.drop (off + min m ys.length))).length _
              rw [this]
            · show (xs.take off ++ (ys.take m ++ xs.drop (off + min m ys.length))).length ≤ cap
              simp; omega
            · show (cur.toList.take off ++ us.take (min m ys.length) ++ cur.toList.drop (off + min m ys.length)).toArray.size = cap * 1
              simp [hml]
              have := hcur
              omega
            · show (cur.toList.take off ++ us.take (min m ys.length) ++ cur.toList.drop (off + min m ys.length)).toArray.toList.take ((xs.take off ++ (ys.take m ++ xs.drop (off + min m ys.length))).length * 1) = _
              have hlen : (xs.take off ++ (ys.take m ++ xs.drop (off + min m ys.length))).length = xs.length := by simp; omega
              rw [hlen, Nat.mul_one, List.toList_toArray]
              rw [Nat.mul_one] at htake
              rw [htk]
              simp only [List.map_append, List.map_take, List.map_drop]
              rw [← hvs, ← htake]
              have := splice_take cur.toList ((ys.take m).map (Value.int k')) off xs.length (by simp; omega) (by rw [hcl]; exact hxl)
              rw [List.length_map, List.length_take] at this
              simp only [List.map_take] at this
              exact this)
        unfold Oper.wp
        rw [fin hrun, ← hcw]
        exact hnext _ _ _ c' hK (.int ..) hpost
end Go.Pv


namespace Go.Pv
set_option linter.unusedVariables false
set_option linter.unusedSimpArgs false
open Go Go.RowKit
variable {P : Program} {T : Ty} {o : Oper} {a : Act} {c : Cx} {B n : Nat} {tm : Nat → PV} {K : PV → Eff → Prop}

theorem fold_splice (off : Nat) (cs vs : Array Value) (h : off + vs.size ≤ cs.size) : (vs.zipIdx.foldl (fun cs (x : Value × Nat) => cs.setIfInBounds (off + x.2) x.1) cs).toList = cs.toList.take off ++ vs.toList ++ cs.toList.drop (off + vs.size) := by
  have e : vs.zipIdx.foldl (fun cs (x : Value × Nat) => cs.setIfInBounds (off + x.2) x.1) cs = (vs.toList.zipIdx 0).foldl (fun cs (x : Value × Nat) => cs.setIfInBounds (off + x.2) x.1) cs := by
    rw [← Array.foldl_toList, Array.toList_zipIdx]
  obtain ⟨h1, h2⟩ := Great.foldl_set off vs.toList 0 cs
  rw [e]
  apply List.ext_getElem?
  intro k
  have h3 := h2 k
  rw [← Array.getElem?_toList] at h3
  rw [h3]
  have hb : off + vs.toList.length ≤ cs.toList.length := by simpa using h
  have := splice_at cs.toList vs.toList off k hb
  simp only [Array.length_toList] at this
  rw [this]
  simp only [Nat.add_zero, Array.length_toList]
  by_cases ha : k < off
  · rw [if_neg (by omega), if_pos ha]; simp
  · by_cases hc : k < off + vs.size
    · rw [if_pos (by omega), if_neg ha, if_pos hc]
    · rw [if_neg (by omega), if_neg ha, if_neg hc]; simp

theorem RepL.splice {q : Bool} {ps vs : List PV} {us ws : List Value} (h1 : RepL c q ps us) (h2 : RepL c q vs ws) (off : Nat) (h : off + vs.length ≤ ps.length) : RepL c q (ps.take off ++ vs ++ ps.drop (off + vs.length)) (us.take off ++ ws ++ us.drop (off + ws.length)) := by
  have e1 := h1.1
  have e2 := h2.1
  refine ⟨by simp; omega, fun i p u hp hu => ?_⟩
  rw [splice_at _ _ _ _ h] at hp
  rw [splice_at _ _ _ _ (by omega)] at hu
  rw [← e2] at hu
  split at hp
  · rename_i ha
    rw [if_pos ha] at hu
    exact h1.2 i p u hp hu
  · rename_i ha
    rw [if_neg ha] at hu
    split at hp
    · rename_i hb
      rw [if_pos hb] at hu
      exact h2.2 _ p u hp hu
    · rename_i hb
      rw [if_neg hb] at hu
      exact h1.2 i p u hp hu

theorem fill_ok {ρ : TypeId → Operand → PV} (hρ : ∀ t x, Rep c false (ρ t x) (a.eval x)) {pl : Nat → Option (Nat × Nat × TypeId)} {place : Nat → Option (Nat × Nat)} (hpl : ∀ i o s t, pl i = some (o, s, t) → place i = some (o, s)) {K : List PV → Prop} :
    ∀ (parts : List (Nat × Operand)) (cv : Array Value) (cp : List PV), RepL c false cp cv.toList → fillP pl ρ cp parts K →
      ∃ out cells, Instr.fill place cv (parts.map fun x => (x.1, a.eval x.2)) = some out ∧ K cells ∧ RepL c false cells out.toList ∧ out.size = cv.size
  | [], cv, cp, hr, h => ⟨cv, cp, rfl, h, hr, rfl⟩
  | (i, x) :: r, cv, cp, hr, h => by
    unfold fillP at h
    split at h
    · rename_i off size t hp
      split at h
      · rename_i vs hc
        obtain ⟨h1, h2, h3⟩ := h
        have hcell := cells_rep hc (hρ t x)
        have hsz : (a.eval x).cells.size = size := by have := hcell.1; simp at this; omega
        have hcv : cp.length = cv.size := by simpa using hr.1
        have hfit : off + (a.eval x).cells.size ≤ cv.size := by omega
        have hsp := fold_splice off cv (a.eval x).cells hfit
        have hr' : RepL c false (cp.take off ++ vs ++ cp.drop (off + size)) ((a.eval x).cells.zipIdx.foldl (fun cs (x : Value × Nat) => cs.setIfInBounds (off + x.2) x.1) cv).toList := by
          rw [hsp, ← h1]
          have := hr.splice hcell off (by omega)
          simpa using this
        obtain ⟨out, cells, h4, h5, h6, h7⟩ := fill_ok hρ hpl r _ _ hr' h3
        refine ⟨out, cells, ?_, h5, h6, ?_⟩
        · simp only [List.map_cons, Instr.fill, hpl i off size t hp]
          rw [if_neg (by simp [hsz]; omega)]
          exact h4
        · rw [h7]
          have := congrArg List.length hsp
          rw [Array.length_toList] at this
          rw [this]
          simp
          omega
      · exact h.elim
    · exact h.elim

theorem struct_places (hT : TyOk P T) : ∀ (F : List Field), (∀ f ∈ F, (T f.type).isSome = true) →
    ∃ places, F.mapM (fun f => (P.info? f.type).map fun i => (f.offset, i.size)) = some places ∧ ∀ (i : Nat) (f : Field), F[i]? = some f → ∀ tf, T f.type = some tf → places[i]? = some (f.offset, tf.sz)
  | [], _ => ⟨[], rfl, fun i f h => by simp at h⟩
  | f :: F, h => by
    obtain ⟨places, h1, h2⟩ := struct_places hT F (fun g hg => h g (List.mem_cons_of_mem _ hg))
    obtain ⟨tf, ht⟩ := Option.isSome_iff_exists.1 (h f (by simp))
    obtain ⟨i, hi, hs, _⟩ := hT.info _ tf ht
    refine ⟨(f.offset, tf.sz) :: places, by simp [List.mapM_cons, hi, h1, hs], fun j g hg tg htg => ?_⟩
    cases j with
    | zero => simp at hg; subst hg; rw [ht] at htg; cases htg; rfl
    | succ j => simp at hg ⊢; exact h2 j g hg tg htg

theorem zero_rep (hT : TyOk P T) {t : TypeId} {ti : TI} (ht : T t = some ti) : ∃ i z, P.info? t = some i ∧ i.zero = some z ∧ z.cells.size = ti.sz ∧ i.size = ti.sz ∧ i.bytes = ti.bytes ∧ ∀ (c : Cx) q, Rep c q ti.zero z := by
  obtain ⟨i, h1, h2, h3, z, h4, h5, h6⟩ := hT.info t ti ht
  exact ⟨i, z, h1, h4, h6, h2, h3, h5⟩

theorem does_build (hT : TyOk P T) (hok : HeapOk c B) {ρ : TypeId → Operand → PV} (hρ : ∀ t x, Rep c false (ρ t x) (a.eval x)) {t : TypeId} {parts : Array (Nat × Operand)} (hop : o.op = .build t parts) {ti : TI} (ht : T t = some ti) {z : List PV} (hz : ti.zero = .agg z)
    {pl : Nat → Option (Nat × Nat × TypeId)}
    (hpl : (∃ fs, ti.k = .struct fs ∧ ∀ i o s t, pl i = some (o, s, t) → ∃ tf, fs[i]? = some (t, o) ∧ T t = some tf ∧ tf.sz = s) ∨ (∃ m e te, ti.k = .arr m e ∧ T e = some te ∧ ∀ i o s t, pl i = some (o, s, t) → o = i * te.sz ∧ s = te.sz))
    (h : fillP pl ρ z parts.toList fun cells => K (.agg cells) []) : Does P o a c B K := by
  obtain ⟨i, zv, hi, hzv, hzs, hsz, hby, hzr⟩ := zero_rep hT ht
  have hzc := hzr c false
  rw [hz] at hzc
  have hzl : RepL c false z zv.cells.toList := cells_rep (p := .agg z) rfl hzc
  have hbuilt : ∃ out cells, P.built t (parts.map fun x => (x.1, a.eval x.2)).toList = some out ∧ K (.agg cells) [] ∧ RepL c false cells out.toList := by
    rcases hpl with ⟨fs, hk, hp⟩ | ⟨m, e, te, hk, hte, hp⟩
    · obtain ⟨F, hF, hm, hall⟩ := hT.struct t ti fs ht hk
      obtain ⟨places, h1, h2⟩ := struct_places hT F.toList (fun f hf => hall _ (by rw [← hm]; exact List.mem_map.2 ⟨f, hf, rfl⟩))
      obtain ⟨out, cells, h3, h4, h5, _⟩ := fill_ok (place := (places.toArray[·]?)) hρ (fun i o s t hq => by
        obtain ⟨tf, h6, h7, h8⟩ := hp i o s t hq
        rw [← hm, List.getElem?_map] at h6
        cases hf : F.toList[i]? with
        | none => rw [hf] at h6; cases h6
        | some f =>
          rw [hf] at h6
          simp at h6
          obtain ⟨rfl, rfl⟩ := h6
          have := h2 i f hf tf h7
          rw [h8] at this
          simpa using this) parts.toList zv.cells z hzl h
      refine ⟨out, cells, ?_, h4, h5⟩
      unfold Program.built
      simp only [hi, hF, hzv, h1]
      rw [Array.toList_map]
      exact h3
    · have hu := hT.arr t ti m e ht hk
      obtain ⟨ie, h6, h7, _⟩ := hT.info e te hte
      obtain ⟨out, cells, h3, h4, h5, _⟩ := fill_ok (place := fun i => some (i * ie.size, ie.size)) hρ (fun i o s t hq => by
        obtain ⟨rfl, rfl⟩ := hp i o s t hq
        rw [h7]) parts.toList zv.cells z hzl h
      refine ⟨out, cells, ?_, h4, h5⟩
      unfold Program.built
      simp only [hi, hu, hzv, h6]
      rw [Array.toList_map]
      exact h3
  obtain ⟨out, cells, hb, hK, hr⟩ := hbuilt
  have hrun := run_build (P := P) c.w t (parts.map fun x => (x.1, a.eval x.2)) out hb
  refine does_sem (s := Instr.build t (parts.map fun x => (x.1, a.eval x.2))) (by simp only [execOp, hop]) hrun (.agg false cells out (by simpa using hr.1) (fun i p v h1 h2 => hr.2 i p v h1 (by simpa using h2))) hK hok

theorem toInts_ok {k : IntKind} : ∀ (ps : List PV) (xs : List Int), toInts k ps = some xs → ps = xs.map (PV.int k)
  | [], xs, h => by simp [toInts] at h; subst h; rfl
  | p :: ps, xs, h => by
    cases p <;> simp only [toInts] at h <;> try (cases h; done)
    rename_i k' n
    split at h
    · rename_i hk
      subst hk
      cases hq : toInts k' ps with
      | none => rw [hq] at h; cases h
      | some ys =>
        rw [hq] at h
        simp at h
        subst h
        rw [List.map_cons, ← toInts_ok ps ys hq]
    · cases h
theorem chunks_get (w : Nat) : ∀ (n : Nat) (l : List PV) (i j : Nat), i < n → j < w → ((chunks w n l).getD i []).getD j .any = l.getD (i * w + j) .any
  | 0, l, i, j, h, _ => by omega
  | n + 1, l, i, j, h, hj => by
    cases i with
    | zero =>
      simp only [chunks, List.getD_eq_getElem?_getD, List.getElem?_cons_zero, Option.getD_some, Nat.zero_mul, Nat.zero_add]
      rw [List.getElem?_take_of_lt hj]
    | succ i =>
      have := chunks_get w n (l.drop w) i j (by omega) hj
      simp only [List.getD_eq_getElem?_getD] at this
      simp only [chunks, List.getD_eq_getElem?_getD, List.getElem?_cons_succ]
      rw [this, List.getElem?_drop]
      congr 2
      rw [Nat.add_mul]
      omega
theorem chunks_len (w : Nat) : ∀ (n : Nat) (l : List PV), (chunks w n l).length = n
  | 0, _ => rfl
  | n + 1, l => by simp [chunks, chunks_len w n]

theorem mkC_ok (hT : TyOk P T) {e : TypeId} {te : TI} (hte : T e = some te) {len : Nat} {q : Bool} {ps : List PV} {us : List Value} {cs : Cells} (h : mkC te len ps = some cs) (hr : RepL c q ps us) (hl : ps.length = len * te.sz) (h1 : ∀ u ∈ us, u.oneCell' = true) : Reps c q cs us ∧ cs.len = len ∧ cs.w = te.sz := by
  have plain : cs = .rows te.sz (chunks te.sz len ps) → Reps c q cs us ∧ cs.len = len ∧ cs.w = te.sz := fun e => by
    subst e
    have hcl : (Cells.rows te.sz (chunks te.sz len ps)).len = len := chunks_len _ _ _
    refine ⟨⟨by rw [hcl]; simp only [Cells.w]; rw [← hr.1, hl], fun i j hi hj => ?_⟩, hcl, rfl⟩
    rw [hcl] at hi
    simp only [Cells.w] at hj ⊢
    have hk : i * te.sz + j < us.length := by rw [← hr.1, hl]; have := idx_lt hi hj; omega
    have e1 : us[i * te.sz + j]? = some us[i * te.sz + j] := List.getElem?_eq_getElem hk
    have hk2 : i * te.sz + j < ps.length := by rw [hr.1]; exact hk
    have e2 : ps[i * te.sz + j]? = some ps[i * te.sz + j] := List.getElem?_eq_getElem hk2
    refine ⟨_, e1, ?_, h1 _ (List.getElem_mem _)⟩
    simp only [Cells.get]
    rw [chunks_get te.sz len ps i j hi hj, List.getD_eq_getElem?_getD, e2]
    exact hr.2 _ _ _ e2 e1
  unfold mkC at h
  split at h
  · rename_i k hk
    have hsz := (hT.int e te k hte hk).2
    cases hq : toInts k ps with
    | none => rw [hq] at h; cases h
    | some xs =>
      rw [hq] at h
      simp at h
      subst h
      have hps := toInts_ok ps xs hq
      rw [hsz, Nat.mul_one] at hl
      have hxl : xs.length = len := by rw [← hl, hps]; simp
      refine ⟨⟨?_, fun i j hi hj => ?_⟩, hxl, hsz.symm⟩
      · simp only [Cells.len, Cells.w, Nat.mul_one]; rw [← hr.1, hps]; simp
      · simp only [Cells.len, Cells.w] at hi hj ⊢
        have hk' : i < us.length := by rw [← hr.1, hps]; simpa using hi
        have e1 : us[i]? = some us[i] := List.getElem?_eq_getElem hk'
        refine ⟨us[i], by rw [Nat.mul_one, show j = 0 by omega, Nat.add_zero]; exact e1, ?_, h1 _ (List.getElem_mem _)⟩
        have e2 : ps[i]? = some (PV.int k (xs.getD i 0)) := by rw [hps]; simp [hi]
        simpa [Cells.get] using hr.2 i _ _ e2 e1
  · simp at h
    exact plain h.symm

theorem sub_all (cs : Cells) (n : Nat) (h : cs.len = n) : cs.sub 0 n = cs := by
  subst h
  cases cs <;> simp [Cells.sub, Cells.len]
/-- A new row: to be read, or the call's own. -/
theorem fresh_row (hok : HeapOk c B) (hn : ¬ c.A n) {out : Array Value} {cs : Cells} {e : TypeId} {len sz : Nat} {v : Value → Act} {next : Act → World → Prop} (hreps : Reps c true cs out.toList) (hcl : cs.len = len) (hcw : cs.w = sz) (hlenO : out.size = len * sz) (hs0 : 0 < sz) (hbig : len ≤ maxLen) {pre : Eff} {K : PV → Eff → Prop}
    (h : K (.ro cs) pre ∨ K (.sl n 0 len len) (pre ++ [(n, some ⟨cs, false, e⟩)]))
    (hnext : ∀ pv eff c', K pv (pre ++ eff) → Rep c' false pv (.slice (some ⟨c.w.heap.size, 0, none⟩) len len) → Post c c' B eff → c'.w = c.w.alloc (.cells out e) → next (v (.slice (some ⟨c.w.heap.size, 0, none⟩) len len)) (c.w.alloc (.cells out e))) :
    next (v (.slice (some ⟨c.w.heap.size, 0, none⟩) len len)) (c.w.alloc (.cells out e)) := by
  have hgr := World.grownBy_alloc c.w (.cells out e) none
  have hnew : (c.w.alloc (.cells out e)).heap[c.w.heap.size]? = some (.cells out e (0, 0)) := heap_alloc_new c.w _
  rcases h with hm | hm
  · obtain ⟨c', hcw', hloc, how, hpost⟩ := post_world hok hgr
    refine hnext _ [] c' (by simpa using hm) ?_ hpost hcw'
    by_cases h0 : len = 0
    · subst h0
      exact .ro0 false cs _ _ hcl
    · have hat : At c' true cs c.w.heap.size 0 := (hreps.mono hpost.le).at_ (w := c.w) (fun j u hj => by
        rw [hcw', cell_of_row _ _ j out e (0, 0) hnew]
        simpa using hj)
      have := ro_of_at c' hat (by rw [how]; exact fun hb => Nat.lt_irrefl _ (hok.lt _ hb)) (by rw [hcw']; simp) false 0 len (by omega) (Nat.le_refl _) (by omega)
      rw [Nat.zero_mul, Nat.zero_add, sub_all cs len hcl] at this
      exact this
  · obtain ⟨c', hcw', hloc, hpost⟩ := post_new (id := n) (V' := .slice (some ⟨c.w.heap.size, 0, none⟩) len len) (blk' := ⟨cs, false, e⟩) hok hn hgr (fun g hg => by simp [blkOf] at hg; omega)
      (fun c' hle hw' => by
        unfold BlkOk
        rw [if_neg (by simp)]
        refine ⟨out.toList, ⟨hreps.1, .inr ⟨c.w.heap.size, len, out, ?_, hok.base, ?_, ?_, ?_, ?_, ?_⟩⟩, hreps.mono hle⟩
        · show Value.slice _ len len = .slice _ cs.len len
          rw [hcl]
        · rw [hw']; exact hnew
        · show cs.len ≤ len
          omega
        · exact hbig
        · show out.size = len * cs.w
          rw [hlenO, hcw]
        · show out.toList.take (cs.len * cs.w) = out.toList
          rw [hcl, hcw, ← hlenO]
          exact List.take_length)
    refine hnext _ _ c' hm ?_ hpost hcw'
    refine .sl n 0 len len _ ((hpost.A n).2 (.inr (by simp))) ⟨_, _, rfl, Nat.le_refl _⟩ fun bl hb => ?_
    rw [hpost.H] at hb
    simp [Eff.on, put_same] at hb
    subst hb
    exact ⟨rfl, by show len ≤ cs.len; omega, fun _ => ⟨by simp, fun _ => .inl (by rw [hloc, put_same]), fun h => absurd ⟨rfl, rfl⟩ h⟩⟩

theorem run_buildSlice0 (w : World) (t e : TypeId) (parts : Array (Nat × Value)) (cells : Array Value) (ie : TypeInfo) (f : Nat → Value)
    (hu : P.underlying t = some (.slice e)) (hie : P.info? e = some ie)
    (h : Instr.fill (fun i => some (i * ie.size, ie.size)) ((Array.range (0 * ie.size)).map f) parts.toList = some cells) :
    (Instr.buildSlice t 0 parts).run P w = .ok (.slice (some ⟨w.heap.size, 0, none⟩) 0 0) (w.alloc (.cells cells e)) := by
  have e1 : ∀ f : Nat → Value, Array.map f (Array.range 0) = #[] := fun f => Array.eq_empty_of_size_eq_zero (by simp)
  rw [Nat.zero_mul, e1] at h
  simp [Instr.buildSlice, run_underlying hu, sizeOf, typeInfo, hie, h, e1, newRow]

/-- A literal slice. -/
theorem does_lit (hT : TyOk P T) (hok : HeapOk c B) (hn : ¬ c.A n) {ρ : TypeId → Operand → PV} (hρ : ∀ t x, Rep c false (ρ t x) (a.eval x)) {t e : TypeId} {len : Nat} {parts : Array (Nat × Operand)} (hop : o.op = .buildSlice t len parts) {tt te : TI} (ht : T t = some tt) (hk : tt.k = .slice e) (hte : T e = some te)
    (h0 : 0 ≤ len) (hs0 : 0 < te.sz) (hbig : len * te.sz ≤ 16777216) {z : List PV} (hz : cellsOf te.zero = some z)
    (h : fillP (fun i => some (i * te.sz, te.sz, e)) ρ ((List.replicate len z).flatten) parts.toList fun cells =>
            cells.all PV.one = true ∧ mvL c.H cells fun cells' ef => match mkC te len cells' with
              | some cs => K (.ro cs) ef ∨ K (.sl n 0 len len) (ef ++ [(n, some ⟨cs, false, e⟩)])
              | none => False) : Does P o a c B K := fun next Q hnext => by
  obtain ⟨ie, zv, hi, hzv, hzs, hsz, hby, hzr⟩ := zero_rep hT hte
  have hzl : RepL c false z zv.cells.toList := cells_rep hz (hzr c false)
  have hzlen : z.length = te.sz := by have := hzl.1; simp at this; omega
  have hmade : ∀ k, ((Array.range (len * ie.size)).map (zv.cells[· % zv.cells.size]!))[k]? = if k < len * te.sz then some (zv.cells[k % te.sz]!) else none := fun k => by
    simp only [Array.getElem?_map, Array.getElem?_range, hsz, hzs]
    split <;> rfl
  have hflat : ∀ (m k : Nat), ((List.replicate m z).flatten)[k]? = if k < m * te.sz then z[k % te.sz]? else none := fun m => by
    induction m with
    | zero => intro k; simp
    | succ m ih =>
      intro k
      rw [List.replicate_succ, List.flatten_cons]
      by_cases hk : k < te.sz
      · rw [List.getElem?_append_left (by omega), if_pos (by rw [Nat.add_mul]; omega), Nat.mod_eq_of_lt hk]
      · rw [List.getElem?_append_right (by omega), ih, hzlen, Nat.add_mul, Nat.one_mul]
        have : (k - te.sz) % te.sz = k % te.sz := by
          conv => rhs; rw [show k = k - te.sz + te.sz by omega, Nat.add_mod_right]
        rw [this]
        by_cases h2 : k < m * te.sz + te.sz
        · rw [if_pos (by omega), if_pos h2]
        · rw [if_neg (by omega), if_neg h2]
  have hstart : RepL c false ((List.replicate len z).flatten) ((Array.range (len * ie.size)).map (zv.cells[· % zv.cells.size]!)).toList := by
    refine ⟨by simp [hzlen, hsz], fun k p u hp hu => ?_⟩
    rw [Array.getElem?_toList, hmade] at hu
    rw [hflat] at hp
    split at hu
    · rename_i hk
      rw [if_pos hk] at hp
      simp at hu
      subst hu
      have hm : k % te.sz < zv.cells.size := by rw [hzs]; exact Nat.mod_lt _ hs0
      have e1 : zv.cells.toList[k % te.sz]? = some (zv.cells[k % te.sz]!) := by
        rw [Array.getElem?_toList, Array.getElem?_eq_getElem hm]
        simp [hm]
      exact hzl.2 _ _ _ hp e1
    · cases hu
  obtain ⟨out, cells, hfill, ⟨hone, hmv⟩, hr, hosz⟩ := fill_ok (place := fun i => some (i * ie.size, ie.size)) hρ (fun i o s t hq => by simp at hq; obtain ⟨rfl, rfl, rfl⟩ := hq; rw [hsz]) parts.toList _ _ hstart h
  have hu := (hT.slice t tt e ht hk).1
  have hrun : (execOp a.eval o).run P c.w = .ok (.value (.slice (some ⟨c.w.heap.size, 0, none⟩) len len)) (c.w.alloc (.cells out e)) := by
    by_cases hz0 : len = 0
    · subst hz0
      have := run_buildSlice0 (P := P) c.w t e (parts.map fun (i, x) => (i, a.eval x)) out ie _ hu hi (by rw [Array.toList_map]; exact hfill)
      simp only [execOp, hop, Sem.run_bind, this, Result.andThen_ok]
      rfl
    have := run_buildSlice (P := P) c.w t e len (parts.map fun (i, x) => (i, a.eval x)) out ie zv hu hi hzv (by rw [hsz]; omega) (by rw [hsz]; have := Nat.mul_pos (Nat.pos_of_ne_zero hz0) hs0; omega) (by rw [Array.toList_map]; exact hfill)
    simp only [execOp, hop, Sem.run_bind, this, Result.andThen_ok]
    rfl
  have hlenO : out.size = len * te.sz := by rw [hosz]; simp [hsz]
  have h1 : ∀ u ∈ out.toList, u.oneCell' = true := fun u hu => by
    obtain ⟨k, hk⟩ := List.getElem?_of_mem hu
    have hlt : k < cells.length := by
      rcases Nat.lt_or_ge k cells.length with h | h
      · exact h
      · have := hr.1; rw [List.getElem?_eq_none (by omega)] at hk; cases hk
    exact one_rep (List.all_eq_true.1 hone _ (List.getElem_mem hlt)) (hr.2 k _ u (List.getElem?_eq_getElem hlt) hk)
  obtain ⟨cells', ef, c1, hm, hr1, hw1, hp1, hA1⟩ := mvL_ok cells _ c _ hok hr hmv
  split at hm
  · rename_i cs hcs
    have hl1 : cells'.length = len * te.sz := by have := hr1.1; simp [hlenO] at this; omega
    obtain ⟨hreps, hcl, hcw⟩ := mkC_ok hT hte hcs hr1 hl1 h1
    unfold Oper.wp
    rw [hrun, ← hw1]
    refine fresh_row (v := fun v => a.put o.dst v) (next := next) hp1.heap (fun h => hn (hA1 n h)) hreps hcl hcw hlenO hs0 ?_ hm (fun pv eff c' hk hrep hpost hcw' => ?_)
    · unfold maxLen
      have : len * 1 ≤ len * te.sz := Nat.mul_le_mul_left _ hs0
      omega
    · rw [← hcw']
      exact hnext _ _ _ c' hk hrep (hp1.trans hpost)
  · exact hm.elim

theorem does_make (hT : TyOk P T) (hok : HeapOk c B) (hn : ¬ c.A n) {t e : TypeId} {l cp : Operand} (hop : o.op = .makeSlice t l cp) {tt te : TI} (ht : T t = some tt) (hk : tt.k = .slice e) (hte : T e = some te) {k1 k2 : IntKind} {x : Int} (hl : a.eval l = .int k1 x) (hc : a.eval cp = .int k2 x)
    (h0 : 0 ≤ x) (hb1 : x * te.bytes ≤ 140737488355328) (hb2 : x ≤ 140737488355328) (hs0 : 0 < te.sz) {cs : Cells} (hlen : cs.len = x.toNat) (hw : cs.w = te.sz)
    (hcs : ∀ (zv : Value), zv.cells.size = te.sz → Rep c false te.zero zv → ∀ i j, i < x.toNat → j < te.sz → ∃ v, zv.cells[j]? = some v ∧ Rep c true (cs.get i j) v ∧ v.oneCell' = true)
    (h : K (.ro cs) [] ∨ K (.sl n 0 x.toNat x.toNat) [(n, some ⟨cs, false, e⟩)]) : Does P o a c B K := fun next Q hnext => by
  obtain ⟨ie, zv, hi, hzv, hzs, hsz, hby, hzr⟩ := zero_rep hT hte
  have hu := (hT.slice t tt e ht hk).1
  have hcell := hcs zv hzs (hzr c false)
  have hbb : (ie.bytes : Int) * x ≤ 281474976710656 := by
    rw [hby, Int.mul_comm]
    omega
  have hrun : (execOp a.eval o).run P c.w = .ok (.value (.slice (some ⟨c.w.heap.size, 0, none⟩) x.toNat x.toNat)) (c.w.alloc (.cells (madeCells zv.cells (x.toNat * te.sz)) e)) := by
    have := run_make (P := P) c.w t e ie zv hu hi hzv k1 k2 x x h0 (Int.le_refl x) hbb (by omega)
    simp only [execOp, hop, hl, hc, Sem.run_bind, this, Result.andThen_ok, hsz]
    rfl
  have hmade : ∀ k, (madeCells zv.cells (x.toNat * te.sz))[k]? = if k < x.toNat * te.sz then some (zv.cells[k % te.sz]!) else none := fun k => by
    simp only [madeCells, Array.getElem?_map, Array.getElem?_range, hzs]
    split <;> rfl
  unfold Oper.wp
  rw [hrun]
  refine fresh_row (v := fun v => a.put o.dst v) (next := next) (pre := []) (sz := te.sz) hok hn ⟨by rw [hlen, hw]; simp [size_madeCells], fun i j hi' hj => ?_⟩ hlen hw (size_madeCells _ _) hs0 (by unfold maxLen; omega) h (fun pv eff c' hk hrep hpost hcw' => ?_)
  · rw [hlen] at hi'
    rw [hw] at hj ⊢
    obtain ⟨v, h1, h2, h3⟩ := hcell i j hi' hj
    refine ⟨v, ?_, h2, h3⟩
    have hlt := idx_lt hi' hj
    rw [Array.getElem?_toList, hmade, if_pos hlt]
    have hm : (i * te.sz + j) % te.sz = j := by rw [Nat.mul_comm i, Nat.mul_add_mod, Nat.mod_eq_of_lt hj]
    have hjs : j < zv.cells.size := by omega
    rw [hm]
    simp [hjs] at h1 ⊢
    exact h1
  · rw [← hcw']
    exact hnext _ _ _ c' hk hrep hpost

/-- A slice of an array of the call's own. -/
theorem does_slA (hT : TyOk P T) (hok : HeapOk c B) {ρ : TypeId → Operand → PV} (hρ : ∀ t x, Rep c false (ρ t x) (a.eval x)) {t m e : TypeId} {x : Operand} {hi : Option Operand} (hop : o.op = .slice t x none hi none) {tt : TI} (ht : T t = some tt) (hk : tt.k = .arr m e) {te : TI} (hte : T e = some te)
    (h : oidx ρ hi fun h => slA c.H m (h.getD m) (ρ 0 x) fun v => K v []) : Does P o a c B K := by
  have hu := hT.arr t tt m e ht hk
  obtain ⟨ho, hh, h⟩ : ∃ ho : Int, ((hi = none ∧ ho = m) ∨ ∃ k, hi.map a.eval = some (.int k ho)) ∧ slA c.H m ho (ρ 0 x) fun v => K v [] := by
    cases hi with
    | none => exact ⟨m, .inl ⟨rfl, rfl⟩, h⟩
    | some y =>
      obtain ⟨k, i, hi, h⟩ := idx_ok (hρ 0 y) h
      exact ⟨i, .inr ⟨k, by simp [hi]⟩, h⟩
  have hx := hρ 0 x
  cases hp : ρ 0 x <;> rw [hp] at h hx <;> try (exact h.elim)
  rename_i id i j tot
  unfold slA at h
  dsimp only at h
  split at h
  · rename_i b hb
    obtain ⟨hbox, hlen, rfl, rfl, h0, h1, h⟩ := h
    have hx2 := hx
    cases hx with
    | ptr _ _ _ _ _ ha hs hkk =>
      obtain ⟨_, hg⟩ := hkk b hb
      obtain ⟨g, hg, hv⟩ := hg hlen
      have hv : a.eval x = .pointer (some ⟨g, j, none⟩) := by rw [hv]; simp
      refine does_sem (s := Instr.sliceAt t (a.eval x) none (hi.map a.eval) none) (v := .slice (some ⟨g, j, none⟩) ho.toNat m) (by simp only [execOp, hop]; rfl) ?_ ?_ h hok
      · have c1 : 0 ≤ ho ∧ ho ≤ (m : Int) := ⟨h0, h1⟩
        have hb : (Instr.sliceBounds false m m none (hi.map a.eval) none).run P c.w = .ok (0, ho.toNat, m) c.w := by
          rcases hh with ⟨rfl, rfl⟩ | ⟨k, hh⟩
          · simp [Instr.sliceBounds]
          · simp [Instr.sliceBounds, hh, Instr.sliceBound, asIntOf, c1]
        rw [hv]
        simp only [Instr.sliceAt, Sem.run_bind, run_underlying hu, Result.andThen_ok, Instr.sureAddr, Sem.run_pure, hb, sizeOf_run hT hte]
        simp [Addr.add_lit]
      · refine .asl id j ho.toNat _ ha ⟨_, _, rfl, by omega⟩ fun b2 hb2 => ?_
        rw [hb] at hb2
        cases hb2
        exact ⟨hbox, by omega, fun _ => ⟨g, m, hg, rfl⟩⟩
  · exact h.elim
/-! ### The other operations -/
theorem does_slice (hT : TyOk P T) (hok : HeapOk c B) {t e : TypeId} {x : Operand} {lo hi : Option Operand} (hop : o.op = .slice t x lo hi none) {tt te : TI} (ht : T t = some tt) (hk : tt.k = .slice e) (hte : T e = some te) {k1 k2 : IntKind} {l h : Int} {p : PV} (hx : Rep c false p (a.eval x))
    (hlo : (lo.map a.eval = none ∧ l = 0) ∨ lo.map a.eval = some (.int k1 l)) (hhi : (∃ m : Nat, hi.map a.eval = none ∧ h = m ∧ ∃ A cp, a.eval x = .slice A m cp) ∨ hi.map a.eval = some (.int k2 h))
    (h0 : 0 ≤ l) (h1 : l ≤ h) {m : Nat} (hm : ∃ A cp, a.eval x = .slice A m cp ∧ m ≤ cp) (h2 : h ≤ m) {q : PV} (hK : K q [])
    (hq : ∀ A cp, a.eval x = .slice A m cp → m ≤ cp → Rep c false q (.slice (if cp = l.toNat then A else A.map (·.add (l.toNat * te.sz))) (h.toNat - l.toNat) (cp - l.toNat))) : Does P o a c B K := by
  obtain ⟨A, cp, hv, hcp⟩ := hm
  have hu := (hT.slice t tt e ht hk).1
  refine does_sem (s := Instr.sliceAt t (a.eval x) (lo.map a.eval) (hi.map a.eval) none) (by simp only [execOp, hop]; rfl) ?_ (hq A cp hv hcp) hK hok
  have hb : (Instr.sliceBounds true m cp (lo.map a.eval) (hi.map a.eval) none).run P c.w = .ok (l.toNat, h.toNat, cp) c.w := by
    have c1 : 0 ≤ h ∧ h ≤ (cp : Int) := by omega
    have c2 : 0 ≤ l ∧ l ≤ h := ⟨h0, h1⟩
    have c3 : max h 0 = h := by omega
    rcases hhi with ⟨m', h3, h4, A', cp', h5⟩ | h3
    · rw [hv] at h5
      cases h5
      rcases hlo with ⟨h6, h7⟩ | h6
      · simp [Instr.sliceBounds, h3, h6, h7, h4]
      · have c4 : 0 ≤ l ∧ l ≤ (m : Int) := by omega
        simp [Instr.sliceBounds, h3, h6, Instr.sliceBound, asIntOf, c4, h4]
    · rcases hlo with ⟨h6, h7⟩ | h6
      · simp [Instr.sliceBounds, h3, h6, Instr.sliceBound, asIntOf, c1, h7]
      · simp [Instr.sliceBounds, h3, h6, Instr.sliceBound, asIntOf, c1, c2, c3]
  rw [hv]
  simp only [Instr.sliceAt, Sem.run_bind, run_underlying hu, Result.andThen_ok, Instr.slice, if_true, hb, sizeOf_run hT hte]
  rfl
end Go.Pv


namespace Go.Pv
set_option linter.unusedVariables false
set_option linter.unusedSimpArgs false
open Go Go.RowKit
variable {P : Program} {T : Ty} {o : Oper} {a : Act} {c : Cx} {B n : Nat} {tm : Nat → PV} {K : PV → Eff → Prop}

theorem oidx_ok {ρ : TypeId → Operand → PV} (hρ : ∀ t x, Rep c false (ρ t x) (a.eval x)) {x : Option Operand} {K : Option Int → Prop} (h : oidx ρ x K) : (x = none ∧ K none) ∨ ∃ k i y, x = some y ∧ a.eval y = .int k i ∧ K (some i) := by
  cases x with
  | none => exact .inl ⟨rfl, h⟩
  | some y =>
    obtain ⟨k, i, h1, h2⟩ := idx_ok (hρ 0 y) h
    exact .inr ⟨k, i, y, rfl, h1, h2⟩

theorem does_sl (hT : TyOk P T) (hok : HeapOk c B) {ρ : TypeId → Operand → PV} (hρ : ∀ t x, Rep c false (ρ t x) (a.eval x)) {t e : TypeId} {x : Operand} {lo hi : Option Operand} (hop : o.op = .slice t x lo hi none) {tt te : TI} (ht : T t = some tt) (hk : tt.k = .slice e) (hte : T e = some te) {p : PV} (hx : Rep c false p (a.eval x))
    (h : oidx ρ lo fun l => oidx ρ hi fun h => slP c.H te l h p fun v => K v []) : Does P o a c B K := by
  have h2 : ∃ l h', (lo = none ∧ l = none ∨ ∃ k i y, lo = some y ∧ a.eval y = .int k i ∧ l = some i) ∧ (hi = none ∧ h' = none ∨ ∃ k i y, hi = some y ∧ a.eval y = .int k i ∧ h' = some i) ∧ slP c.H te l h' p fun v => K v [] := by
    rcases oidx_ok hρ h with ⟨h1, h2⟩ | ⟨k, i, y, h1, h2, h3⟩
    · rcases oidx_ok hρ h2 with ⟨h4, h5⟩ | ⟨k', i', y', h4, h5, h6⟩
      · exact ⟨_, _, .inl ⟨h1, rfl⟩, .inl ⟨h4, rfl⟩, h5⟩
      · exact ⟨_, _, .inl ⟨h1, rfl⟩, .inr ⟨k', i', y', h4, h5, rfl⟩, h6⟩
    · rcases oidx_ok hρ h3 with ⟨h4, h5⟩ | ⟨k', i', y', h4, h5, h6⟩
      · exact ⟨_, _, .inr ⟨k, i, y, h1, h2, rfl⟩, .inl ⟨h4, rfl⟩, h5⟩
      · exact ⟨_, _, .inr ⟨k, i, y, h1, h2, rfl⟩, .inr ⟨k', i', y', h4, h5, rfl⟩, h6⟩
  clear h
  obtain ⟨l, h', hl, hh, h⟩ := h2
  have hlo : ∃ k1, (lo.map a.eval = none ∧ l.getD 0 = 0) ∨ lo.map a.eval = some (.int k1 (l.getD 0)) := by
    rcases hl with ⟨rfl, rfl⟩ | ⟨k, i, y, rfl, h1, rfl⟩
    · exact ⟨.i64, .inl ⟨rfl, rfl⟩⟩
    · exact ⟨k, .inr (by simp [h1])⟩
  have hhi : ∀ m : Nat, (∃ A cp, a.eval x = .slice A m cp) → ∃ k2, (∃ m : Nat, hi.map a.eval = none ∧ h'.getD m = m ∧ ∃ A cp, a.eval x = .slice A m cp) ∨ hi.map a.eval = some (.int k2 (h'.getD m)) := fun m hm => by
    rcases hh with ⟨rfl, rfl⟩ | ⟨k, i, y, rfl, h1, rfl⟩
    · exact ⟨.i64, .inl ⟨m, rfl, rfl, hm⟩⟩
    · exact ⟨k, .inr (by simp [h1])⟩
  obtain ⟨k1, hlo⟩ := hlo
  cases p <;> try (exact h.elim)
  case ro cs =>
    obtain ⟨h0, h1, h2, hw, hK⟩ := h
    have hshape : ∃ A cp, a.eval x = .slice A cs.len cp ∧ cs.len ≤ cp := by
      rcases ro_at hx with ⟨h3, A, cp, h4⟩ | ⟨b, off, cp, h4, h5, _⟩
      · exact ⟨A, cp, by rw [h3]; exact h4, by omega⟩
      · exact ⟨_, cp, h4, h5⟩
    obtain ⟨k2, hhi⟩ := hhi cs.len (let ⟨A, cp, h, _⟩ := hshape; ⟨A, cp, h⟩)
    refine does_slice (k2 := k2) (l := l.getD 0) (h := h'.getD cs.len) hT hok hop ht hk hte hx hlo ?_ h0 h1 hshape h2 hK fun A cp hv hcp => ?_
    · rcases hhi with ⟨m', h3, h4, h5⟩ | h3
      · refine .inl ⟨cs.len, h3, ?_, let ⟨A, cp, h, _⟩ := hshape; ⟨A, cp, h⟩⟩
        rcases hh with ⟨rfl, rfl⟩ | ⟨k, i, y, rfl, h6, rfl⟩
        · rfl
        · simp at h3
      · exact .inr h3
    · by_cases he : (h'.getD cs.len).toNat - (l.getD 0).toNat = 0
      · rw [he]
        exact .ro0 false _ _ _ (sub_len cs _ 0 (by omega))
      · rcases ro_at hx with ⟨h3, A', cp', h4⟩ | ⟨b, off, cp', h4, h5, hat, hb, hlt⟩
        · omega
        · rw [hv] at h4
          cases h4
          rw [if_neg (by omega)]
          have := ro_of_at c (cp := cp - (l.getD 0).toNat) hat hb hlt false (l.getD 0).toNat ((h'.getD cs.len).toNat - (l.getD 0).toNat) (by omega) (by omega) (by omega)
          rw [hw] at this
          simpa [Addr.add_lit] using this
  case nil cs =>
    obtain ⟨h0, h1, hK⟩ := h
    have hshape : ∃ A, a.eval x = .slice A 0 0 := by
      generalize a.eval x = v at hx
      cases hx
      exact ⟨_, rfl⟩
    obtain ⟨A, hv0⟩ := hshape
    obtain ⟨k2, hhi⟩ := hhi 0 ⟨A, 0, hv0⟩
    refine does_slice (k2 := k2) (l := l.getD 0) (h := h'.getD 0) (m := 0) (q := .nil cs) hT hok hop ht hk hte hx hlo ?_ (by omega) (by omega) ⟨A, 0, hv0, Nat.le_refl 0⟩ (by omega) hK fun A' cp hv hcp => ?_
    · rcases hhi with ⟨m', h3, h4, h5⟩ | h3
      · exact .inl ⟨0, h3, by rw [h1]; rfl, A, 0, hv0⟩
      · exact .inr h3
    · rw [hv0] at hv
      cases hv
      rw [h0, h1]
      have hcs : cs.len = 0 := by
        rw [hv0] at hx
        cases hx
        assumption
      exact .nil false cs _ hcs
  case sl id off m tot =>
    unfold slP at h
    dsimp only at h
    split at h
    · rename_i b hb
      obtain ⟨hbl, hw, h0, h1, h2, hK⟩ := h
      have hx' := hx
      cases hx' with
      | sl _ _ _ _ _ ha hs hkk =>
        obtain ⟨hbox, htot, hsl⟩ := hkk b hb
        obtain ⟨hle, _, _⟩ := hsl hbl
        obtain ⟨k2, hhi⟩ := hhi m (let ⟨A, cp, h, _⟩ := hs; ⟨A, cp, h⟩)
        refine does_slice (k2 := k2) (l := l.getD 0) (h := h'.getD m) hT hok hop ht hk hte hx hlo ?_ h0 h1 hs h2 hK fun A cp hv hcp => ?_
        · rcases hhi with ⟨m', h3, h4, h5⟩ | h3
          · refine .inl ⟨m, h3, ?_, let ⟨A, cp, h, _⟩ := hs; ⟨A, cp, h⟩⟩
            rcases hh with ⟨rfl, rfl⟩ | ⟨k, i, y, rfl, h6, rfl⟩
            · rfl
            · simp at h3
          · exact .inr h3
        · have hcp2 : (h'.getD m).toNat - (l.getD 0).toNat ≤ cp - (l.getD 0).toNat := by omega
          refine .sl id _ _ _ _ ha ⟨_, _, rfl, hcp2⟩ fun b2 hb2 => ?_
          rw [hb] at hb2
          cases hb2
          refine ⟨hbox, htot, fun _ => ⟨by omega, fun hwh => ?_, fun hnw => ?_⟩⟩
          · have hl0 : l.getD 0 = 0 := by omega
            have hhm : (h'.getD m).toNat = m := by omega
            have hoff : off = 0 := by omega
            have hmt : m = tot := by omega
            have hvv := (hsl hbl).2.1 ⟨hoff, hmt⟩
            rw [hl0, hhm]
            have e : Value.slice (if cp = (0 : Int).toNat then A else A.map (·.add ((0 : Int).toNat * te.sz))) (m - (0 : Int).toNat) (cp - (0 : Int).toNat) = a.eval x := by
              rw [hv]
              cases A <;> simp [Addr.add]
            rw [e]
            exact hvv
          · by_cases he : (h'.getD m).toNat - (l.getD 0).toNat = 0
            · exact .inl he
            · obtain ⟨g, cp', hg, hv', _⟩ := sl_own hok hx hb hbl (by omega)
              rw [hv] at hv'
              cases hv'
              refine .inr ⟨g, cp - (l.getD 0).toNat, hg, ?_⟩
              rw [if_neg (by omega)]
              simp only [Option.map_some, Addr.add_lit]
              rw [Nat.add_mul, hw]
    · exact h.elim
end Go.Pv


namespace Go.Pv
set_option linter.unusedVariables false
set_option linter.unusedSimpArgs false
open Go Go.RowKit
variable {P : Program} {T : Ty} {o : Oper} {a : Act} {c : Cx} {B n : Nat} {tm : Nat → PV} {K : PV → Eff → Prop}

theorem args_ok {ρ : TypeId → Operand → PV} (hρ : ∀ t x, Rep c false (ρ t x) (a.eval x)) : ∀ (xs : List Operand) (ts : List TypeId), RepL c false (argsP ρ xs ts) (xs.map a.eval)
  | [], _ => .nil
  | x :: xs, [] => .cons (hρ 0 x) (args_ok hρ xs [])
  | x :: xs, t :: ts => .cons (hρ t x) (args_ok hρ xs ts)

theorem grown_below {w w' : World} {row : Option Nat} (h : Below w.heap.size w w') : w.grownBy w' row := ⟨h.os, h.tape, h.output, h.size, fun j hj _ => h.block j hj⟩

theorem RepL.app {q : Bool} {ps ps' : List PV} {us us' : List Value} (h : RepL c q ps us) (h' : RepL c q ps' us') : RepL c q (ps ++ ps') (us ++ us') := by
  refine ⟨by simp [h.1, h'.1], fun i p u h1 h2 => ?_⟩
  by_cases hi : i < ps.length
  · rw [List.getElem?_append_left hi] at h1
    rw [List.getElem?_append_left (by rw [← h.1]; exact hi)] at h2
    exact h.2 i p u h1 h2
  · rw [List.getElem?_append_right (by omega)] at h1
    rw [List.getElem?_append_right (by have := h.1; omega), ← h.1] at h2
    exact h'.2 _ p u h1 h2

theorem scal1_rep {c c' : Cx} {q q' : Bool} {p : PV} {v : Value} (h : scal1 p = true) (r : Rep c q p v) : Rep c' q' p v := by
  cases r <;> first | (cases h; done) | constructor
theorem scal_rep {c c' : Cx} {q q' : Bool} {p : PV} {v : Value} (h : p.scal = true) (r : Rep c q p v) : Rep c' q' p v := by
  cases p with
  | agg cs =>
    cases r with
    | agg _ _ vs h1 h2 => exact .agg _ _ _ h1 fun i p v h3 h4 => scal1_rep (List.all_eq_true.1 h p (List.mem_of_getElem? h3)) (h2 i p v h3 h4)
  | tup cs =>
    cases r with
    | tup _ _ vs h1 h2 => exact .tup _ _ _ h1 fun i p v h3 h4 => scal1_rep (List.all_eq_true.1 h p (List.mem_of_getElem? h3)) (h2 i p v h3 h4)
  | _ => exact scal1_rep h r

-- CUT
structure CutP (L : Nat → Bool) (c c' : Cx) : Prop where
  w : c'.w = c.w
  loc : c'.loc = c.loc
  ow : c'.ow = c.ow
  pk : c'.pk = c.pk
  A : ∀ id, L id = true → c.A id → c'.A id
  H : ∀ id b, c'.H id = some b → c.H id = some b ∧ b.inL L = true

theorem Rep.cutP1 {L : Nat → Bool} {c c' : Cx} (h : CutP L c c') {q : Bool} {p : PV} {v : Value} (hl : inL1 L p = true) (r : Rep c q p v) : Rep c' q p v := by
  have hb : ∀ b, ¬ c.ow b → b < c.w.heap.size → ¬ c'.ow b ∧ b < c'.w.heap.size ∧ ∀ o, c'.w.cell? ⟨b, o, none⟩ = c.w.cell? ⟨b, o, none⟩ := fun b h1 h2 => by rw [h.w, h.ow]; exact ⟨h1, h2, fun _ => rfl⟩
  cases r with
  | any _ v => exact .any _ v
  | bool _ b => exact .bool _ b
  | int _ k n => exact .int _ k n
  | str _ s => exact .str _ s
  | nilf => exact .nilf _
  | nil _ cs a e => exact .nil _ cs a e
  | ro0 _ cs a cp e => exact .ro0 _ cs a cp e
  | ro _ cs b off cp f h0 hc hb' hlt hcell hr =>
    obtain ⟨h1, h2, h3⟩ := hb b hb' hlt
    exact .ro _ cs b off cp f h0 hc h1 h2 (fun i j hi hj => ⟨(h3 _).trans (hcell i j hi hj).1, (hcell i j hi hj).2⟩) (fun i j hi hj => @Rep.bare c c' hb true rfl _ _ (hr i j hi hj))
  | rop _ cs i0 j0 b off f hb' hlt hcell hr =>
    obtain ⟨h1, h2, h3⟩ := hb b hb' hlt
    exact .rop _ cs i0 j0 b off f h1 h2 (fun i j hi hj => ⟨(h3 _).trans (hcell i j hi hj).1, (hcell i j hi hj).2⟩) (fun i j hi hj => @Rep.bare c c' hb true rfl _ _ (hr i j hi hj))
  | sl id off n tot v ha hs hk =>
    refine .sl id off n tot v (h.A id (by simpa [inL1] using hl) ha) hs fun blk hb2 => ?_
    rw [h.loc]
    exact hk blk (h.H id blk hb2).1
  | ptr id i j tot v ha hs hk =>
    refine .ptr id i j tot v (h.A id (by simpa [inL1] using hl) ha) hs fun blk hb2 => ?_
    rw [h.loc]
    exact hk blk (h.H id blk hb2).1
  | asl id j n v ha hs hk =>
    refine .asl id j n v (h.A id (by simpa [inL1] using hl) ha) hs fun blk hb2 => ?_
    rw [h.loc]
    exact hk blk (h.H id blk hb2).1
  | yld id v ha hs hk =>
    refine .yld id v (h.A id (by simpa [inL1] using hl) ha) hs fun blk hb2 => ?_
    rw [h.loc]
    exact hk blk (h.H id blk hb2).1
  | fn _ f caps vs h1 h2 =>
    cases caps with
    | nil => exact .fn _ f [] vs h1 (fun i q v h => by simp at h)
    | cons => simp [inL1] at hl
  | agg => simp [inL1] at hl
  | tup => simp [inL1] at hl
  | opt => simp [inL1] at hl
  | old Te cs v hd => exact .old Te cs v (hd.mono (fun b h1 => let ⟨k1, k2, k3⟩ := hb b h1.1 h1.2; ⟨⟨k1, k2⟩, k3⟩) fun b h1 => by rw [h.pk, h.w]; exact ⟨h1, rfl⟩)
  | oldp Te cs i0 j0 b off arr f h1 h2 h3 h4 => exact .oldp Te cs i0 j0 b off arr f (by rw [h.pk]; exact h1) (by rw [h.w]; exact h2) h3 fun i j hi hj => (h4 i j hi hj).mono (fun b h1 => let ⟨k1, k2, k3⟩ := hb b h1.1 h1.2; ⟨⟨k1, k2⟩, k3⟩) fun b h1 => by rw [h.pk, h.w]; exact ⟨h1, rfl⟩
  | uint _ k n => exact .uint _ k n
theorem Rep.cutP {L : Nat → Bool} {c c' : Cx} (h : CutP L c c') {q : Bool} {p : PV} {v : Value} (hl : p.inL L = true) (r : Rep c q p v) : Rep c' q p v := by
  cases p with
  | fn f caps =>
    cases r with
    | fn _ _ _ vs h1 h2 => exact .fn _ f caps vs h1 fun i p v h3 h4 => (h2 i p v h3 h4).cutP1 h (List.all_eq_true.1 hl p (List.mem_of_getElem? h3))
  | agg cs =>
    cases r with
    | agg _ _ vs h1 h2 => exact .agg _ cs vs h1 fun i p v h3 h4 => (h2 i p v h3 h4).cutP1 h (List.all_eq_true.1 hl p (List.mem_of_getElem? h3))
  | tup cs =>
    cases r with
    | tup _ _ vs h1 h2 => exact .tup _ cs vs h1 fun i p v h3 h4 => (h2 i p v h3 h4).cutP1 h (List.all_eq_true.1 hl p (List.mem_of_getElem? h3))
  | _ => exact r.cutP1 h hl


theorem inL_get {L : Nat → Bool} {cs : Cells} (h : cs.inL L = true) (i j : Nat) : inL1 L (cs.get i j) = true := by
  cases cs with
  | ints => rfl
  | lp => rfl
  | rows w rs =>
    simp only [Cells.get, List.getD_eq_getElem?_getD]
    cases hi : rs[i]? with
    | none => rfl
    | some r =>
      simp only [Option.getD_some]
      cases hj : r[j]? with
      | none => rfl
      | some p => exact List.all_eq_true.1 (List.all_eq_true.1 h r (List.mem_of_getElem? hi)) p (List.mem_of_getElem? hj)

theorem getH_mem : ∀ (l : List (Nat × Option Blk)) (t : Nat) (b : Blk), getH l t = some b → (t, some b) ∈ l
  | [], _, _, h => by cases h
  | (i, v) :: r, t, b, h => by
    simp only [getH] at h
    by_cases hi : i = t
    · subst hi; rw [if_pos rfl] at h; subst h; simp
    · rw [if_neg hi] at h
      exact List.mem_cons_of_mem _ (getH_mem r t b h)

theorem does_call (hok : HeapOk c B) {ρ : TypeId → Operand → PV} (hρ : ∀ t x, Rep c false (ρ t x) (a.eval x)) {cl : Call} {f : Operand} (hop : o.op = .call cl) (hcl : cl.callee = .value f) {g : Nat} {caps : List PV} (hf : ρ 0 f = .fn g caps)
    (h : frzA c.H (argsP ρ cl.args.toList cl.argTypes.toList ++ caps) fun ps is => ∃ r, PCall P g ps r ∧ (if r.scal then K r [] else K r (is.map fun i => (i, none)))) : Does P o a c B K := fun next Q hnext => by
  have hfr := hρ 0 f
  rw [hf] at hfr
  obtain ⟨cv, hcv, hcaps⟩ : ∃ cv : Array Value, a.eval f = .func (.func g) #[] cv ∧ RepL c false caps cv.toList := by
    generalize a.eval f = v at hfr
    cases hfr with
    | fn _ _ _ vs h1 h2 => exact ⟨vs, rfl, repL_of h1 h2⟩
  obtain ⟨ps, is, ⟨r, ⟨⟨fn, h1, h2, h3⟩, hcall⟩, hK⟩, hA, hl⟩ := frzA_ok hok _ _ _ ((args_ok hρ cl.args.toList cl.argTypes.toList).app hcaps) h
  have hrun : (execOp a.eval o).run P c.w = .ok (.enter g (cl.args.map a.eval ++ cv)) c.w := by
    simp only [execOp, hop, resolve, hcl, hcv, Deferred.ofValue, Sem.run_bind, Sem.run_pure, Result.andThen_ok, invoke, callFunc, program, Sem.run, h1, h2, h3]
    simp
  let S : Nat → Prop := fun b => c.ow b ∧ ∀ id ∈ is, blkOf (c.loc id) ≠ some b
  have hl' := hl S (fun b h => h.1) (fun id hi g hg h => h.2 id hi hg)
  unfold Oper.wp
  rw [hrun]
  refine (hcall c.w (cl.args.map a.eval ++ cv) S (fun b hb => hok.lt b hb.1) ⟨by have := hl'.1; simpa using this, fun i p v hp hv => hl'.2 i p v hp (by rw [← Array.getElem?_toList] at hv; simpa using hv)⟩).mono ?_
  rintro e w' ⟨v, rfl, hr, hb⟩
  show next (a.put o.dst v) w'
  obtain ⟨c', hcw, hloc, how, hpost⟩ := post_world (w' := w') hok (grown_below hb)
  split at hK
  · rename_i hs
    rw [← hcw]
    exact hnext r [] v c' hK (scal_rep hs hr) hpost
  · obtain ⟨c2, k1, k2, k3, k4, k5⟩ := kills_ok is c' hpost.heap fun i hi => (hpost.A i).2 (.inl (let ⟨b, hb⟩ := hA i hi; (hok.ok i b hb).1))
    rw [← hcw, ← k1]
    refine hnext r _ v c2 hK ?_ (hpost.trans k3)
    refine (@Rep.bare (see S w') c2 (fun b hb' hlt => ⟨fun ho => ?_, by rw [k1, hcw]; exact hlt, fun _ => by rw [k1, hcw]; rfl⟩) true rfl _ _ hr).loose
    have ho1 : c.ow b := by rw [← how]; exact k4 b ho
    refine hb' ⟨ho1, fun id hi e => ?_⟩
    obtain ⟨blk, hH⟩ := hA id hi
    refine k5 id hi blk b ?_ (by rw [hloc]; exact e) ho
    rw [hpost.H]
    exact hH

theorem eff_off {e : Eff} {H : Nat → Option Blk} {id : Nat} (h : ∀ p ∈ e, p.1 ≠ id) : e.on H id = H id := by
  induction e generalizing H with
  | nil => rfl
  | cons p r ih =>
    obtain ⟨i, b⟩ := p
    show Eff.on r (put H i b) id = H id
    rw [ih (fun q hq => h q (List.mem_cons_of_mem _ hq)), put_ne _ _ (h (i, b) (by simp))]
theorem eff_same {e : Eff} {H H' : Nat → Option Blk} {id : Nat} (h : H id = H' id) : e.on H id = e.on H' id := by
  induction e generalizing H H' with
  | nil => exact h
  | cons p r ih =>
    obtain ⟨i, b⟩ := p
    refine ih ?_
    rw [put_at, put_at]
    split
    · rfl
    · exact h
theorem eff_in {e : Eff} : ∀ {H H' : Nat → Option Blk} {id : Nat}, id ∈ e.map (·.1) → e.on H id = e.on H' id := by
  induction e with
  | nil => intro H H' id h; simp at h
  | cons p r ih =>
    obtain ⟨i, b⟩ := p
    intro H H' id h
    show Eff.on r (put H i b) id = Eff.on r (put H' i b) id
    by_cases hr : id ∈ r.map (·.1)
    · exact ih hr
    · have : i = id := by
        rcases List.mem_cons.1 h with h | h
        · exact h.symm
        · exact absurd h hr
      subst this
      exact eff_same (by rw [put_same, put_same])
theorem getH_eq {H : Nat → Option Blk} : ∀ {l : List (Nat × Option Blk)} {id : Nat}, (∀ p ∈ l, H p.1 = p.2) → id ∈ l.map (·.1) → getH l id = H id
  | (i, v) :: r, id, h, hm => by
    simp only [getH]
    by_cases hi : i = id
    · subst hi; rw [if_pos rfl]; exact (h (i, v) (by simp)).symm
    · rw [if_neg hi]
      refine getH_eq (fun p hp => h p (List.mem_cons_of_mem _ hp)) ?_
      rcases List.mem_cons.1 hm with h | h
      · exact absurd h.symm hi
      · exact h
theorem lp_inL {L : Nat → Bool} {L' : Loop} {ps : List PV} (h : (Cells.lp L' ps).inL L = true) (t : Nat) : (ps.getD t .any).inL L = true := by
  rw [List.getD_eq_getElem?_getD]
  cases ht : ps[t]? with
  | none => rfl
  | some p => exact List.all_eq_true.1 h p (List.mem_of_getElem? ht)
theorem HeapOk.cut {L : Nat → Bool} {c1 : Cx} (hcut : CutP L c c1) (hA : ∀ id b, c1.H id = some b → c1.A id) (hok : HeapOk c B) : HeapOk c1 B := by
  refine ⟨fun id blk hb => ?_, fun id blk g hb hg => ?_, fun i1 i2 b1 b2 g h1 h2 g1 g2 => ?_, by rw [hcut.w]; exact hok.base, fun b hb => ?_, fun b hb => ?_⟩
  · obtain ⟨h4, h5⟩ := hcut.H id blk hb
    obtain ⟨h6, h7⟩ := hok.ok id blk h4
    refine ⟨hA id blk hb, ?_⟩
    rw [hcut.loc]
    unfold BlkOk at h7 ⊢
    split
    · rename_i hbox
      rw [if_pos hbox] at h7
      obtain ⟨g, us, T', e1, e2, e3, e4⟩ := h7
      have hlo : blk.cs.inL L = true := by simpa [Blk.inL, hbox] using h5
      exact ⟨g, us, T', e1, e2, e3.to (by rw [hcut.w]) (fun L' ps he t ht => ht.cutP hcut (lp_inL (by rw [he] at hlo; exact hlo) t)), e4.1, fun i j hi hj => by obtain ⟨v, h6, h7, h8⟩ := e4.2 i j hi hj; exact ⟨v, h6, h7.cutP1 hcut (inL_get hlo i j), h8⟩⟩
    · rename_i hbox
      rw [if_neg hbox] at h7
      obtain ⟨us, e1, e2⟩ := h7
      refine ⟨us, by rw [hcut.w]; exact e1, e2.1, fun i j hi hj => ?_⟩
      obtain ⟨v, h6, h7, h8⟩ := e2.2 i j hi hj
      exact ⟨v, h6, @Rep.bare c c1 (fun b h1 h2 => by rw [hcut.w, hcut.ow]; exact ⟨h1, h2, fun _ => rfl⟩) true rfl _ _ h7, h8⟩
  · rw [hcut.loc] at hg
    rw [hcut.ow]
    exact hok.own id blk g (hcut.H id blk hb).1 hg
  · rw [hcut.loc] at g1 g2
    exact hok.inj i1 i2 b1 b2 g (hcut.H i1 b1 h1).1 (hcut.H i2 b2 h2).1 g1 g2
  · rw [hcut.ow] at hb
    rw [hcut.w]
    exact hok.lt b hb
  · rw [hcut.pk] at hb
    obtain ⟨h1, h2, h3⟩ := hok.pk b hb
    exact ⟨by rw [hcut.ow]; exact h1, ⟨by rw [hcut.w]; exact h2.1, fun id blk h => by rw [hcut.loc]; exact h2.2 id blk (hcut.H id blk h).1⟩, by rw [hcut.w]; exact h3⟩

theorem does_hcall (hok : HeapOk c B) (hn : ∀ q, q < 8 → ¬ c.A (n + q)) {ρ : TypeId → Operand → PV} (hρ : ∀ t x, Rep c false (ρ t x) (a.eval x)) {cl : Call} {f : Operand} (hop : o.op = .call cl) (hcle : cl.callee = .value f) {g : Nat} {caps : List PV} (hf : ρ 0 f = .fn g caps)
    (h : hcl P c.H n g (argsP ρ cl.args.toList cl.argTypes.toList ++ caps) K) : Does P o a c B K := fun next Q hnext => by
  have hfr := hρ 0 f
  rw [hf] at hfr
  obtain ⟨cv, hcv, hcaps⟩ : ∃ cv : Array Value, a.eval f = .func (.func g) #[] cv ∧ RepL c false caps cv.toList := by
    generalize a.eval f = v at hfr
    cases hfr with
    | fn _ _ _ vs h1 h2 => exact ⟨vs, rfl, repL_of h1 h2⟩
  obtain ⟨Hr, r, e, ⟨⟨fn, h1, h2, h3⟩, hcall⟩, hHr, hargs, hfresh, hK⟩ := h
  have hrun : (execOp a.eval o).run P c.w = .ok (.enter g (cl.args.map a.eval ++ cv)) c.w := by
    simp only [execOp, hop, resolve, hcle, hcv, Deferred.ofValue, Sem.run_bind, Sem.run_pure, Result.andThen_ok, invoke, callFunc, program, Sem.run, h1, h2, h3]
    simp
  let L : Nat → Bool := fun i => (Hr.map (·.1)).contains i
  have hL : ∀ {i}, L i = true ↔ i ∈ Hr.map (·.1) := fun {i} => by simp only [L, List.contains_iff_mem]
  have hHe : ∀ {id}, id ∈ Hr.map (·.1) → getH Hr id = c.H id := fun {id} hm => getH_eq (fun p hp => (hHr p hp).2.2.1) hm
  have hHlt : ∀ {id}, id ∈ Hr.map (·.1) → id < n := fun {id} hm => by obtain ⟨p, hp, rfl⟩ := List.mem_map.1 hm; exact (hHr p hp).2.1
  let c1 : Cx := { c with H := getH Hr, A := fun id => c.A id ∧ id ∈ Hr.map (·.1) }
  have hHs : ∀ {id b}, c1.H id = some b → id ∈ Hr.map (·.1) ∧ c.H id = some b := fun {id b} hb => by
    have hm : id ∈ Hr.map (·.1) := List.mem_map.2 ⟨_, getH_mem Hr id b hb, rfl⟩
    exact ⟨hm, by rw [← hHe hm]; exact hb⟩
  have hcut : CutP L c c1 := ⟨rfl, rfl, rfl, rfl, fun id hl ha => ⟨ha, hL.1 hl⟩, fun id b hb => ⟨(hHs hb).2, (hHr _ (getH_mem Hr id b hb)).2.2.2 b rfl⟩⟩
  have hok1 : HeapOk c1 B := hok.cut hcut fun id b hb => ⟨(hok.ok id b (hHs hb).2).1, (hHs hb).1⟩
  have hl := (args_ok hρ cl.args.toList cl.argTypes.toList).app hcaps
  unfold Oper.wp
  rw [hrun]
  refine (hcall c1 B (cl.args.map a.eval ++ cv) hok1 rfl (fun id hid hA => by have := hHlt hA.2; omega) ⟨by have := hl.1; simpa using this, fun i p v hp hv => ?_⟩).mono ?_
  · exact (hl.2 i p v hp (by rw [← Array.getElem?_toList] at hv; simpa using hv)).cutP hcut (List.all_eq_true.1 hargs p (List.mem_of_getElem? hp))
  rintro en w' ⟨v, c2, rfl, rfl, hr, hpost⟩
  show next (a.put o.dst v) c2.w
  have hA2 : ∀ {id}, c2.A id ↔ (c.A id ∧ id ∈ Hr.map (·.1)) ∨ id ∈ e.map (·.1) := fun {id} => hpost.A id
  have hnew : ∀ {id}, id ∈ e.map (·.1) → c.A id → id ∈ Hr.map (·.1) := fun {id} hm ha => by
    obtain ⟨p, hp, rfl⟩ := List.mem_map.1 hm
    rcases hfresh p hp with h | h
    · exact h
    · refine absurd ha ?_
      have := hn (p.1 - n) (by omega)
      rwa [show n + (p.1 - n) = p.1 by omega] at this
  let c' : Cx := { w := c2.w, loc := fun id => @ite _ (c2.A id) (Classical.propDecidable _) (c2.loc id) (c.loc id), H := e.on c.H, A := fun id => c.A id ∨ id ∈ e.map (·.1), ow := c2.ow, pk := c2.pk }
  have hloc1 : ∀ {id}, c2.A id → c'.loc id = c2.loc id := fun {id} ha => if_pos ha
  have hloc0 : ∀ {id}, ¬ c2.A id → c'.loc id = c.loc id := fun {id} ha => if_neg ha
  have hH1 : ∀ {id}, c2.A id → c'.H id = c2.H id := fun {id} ha => by
    rw [hpost.H]
    show e.on c.H id = e.on (getH Hr) id
    rcases hA2.1 ha with h | h
    · exact eff_same (hHe h.2).symm
    · exact eff_in h
  have hH0 : ∀ {id}, ¬ c2.A id → c'.H id = c.H id := fun {id} ha => eff_off fun p hp e' => ha (hA2.2 (.inr (List.mem_map.2 ⟨p, hp, e'⟩)))
  have hidle : ∀ {id blk g}, ¬ c2.A id → c.H id = some blk → blkOf (c.loc id) = some g → c1.idle g := fun {id blk g} ha hb hg => by
    refine ⟨((hok.ok id blk hb).2.lt hg).2, fun id' bk' hb' e' => ?_⟩
    obtain ⟨hm, hb2⟩ := hHs hb'
    have : id' = id := hok.inj id' id bk' blk g hb2 hb e' hg
    subst this
    exact ha (hA2.2 (.inl ⟨(hok.ok _ blk hb).1, hm⟩))
  have hle2 : c2.Le c' := ⟨fun b h1 h2 => ⟨h1, h2, fun _ => rfl⟩, fun id ha => (hA2.1 ha).elim (fun h => .inl h.1) .inr, fun id blk' ha hb => ⟨blk', by rw [← hH1 ha]; exact hb, Nat.le_refl _, rfl, rfl, fun _ => hloc1 ha⟩, fun b hb => ⟨hb, rfl⟩⟩
  have hle : c.Le c' := by
    refine ⟨hpost.le.stable, fun id h => .inl h, fun id blk' ha hb => ?_, fun b hb => hpost.le.park b hb⟩
    by_cases h2 : c2.A id
    · have ha1 : c1.A id := ⟨ha, (hA2.1 h2).elim (fun h => h.2) fun h => hnew h ha⟩
      obtain ⟨blk, k1, k2, k3, k4, k5⟩ := hpost.le.ids id blk' ha1 (by rw [← hH1 h2]; exact hb)
      exact ⟨blk, (hHs k1).2, k2, k3, k4, fun e' => (hloc1 h2).trans (k5 e')⟩
    · exact ⟨blk', by rw [← hH0 h2]; exact hb, Nat.le_refl _, rfl, rfl, fun _ => hloc0 h2⟩
  have hlow : ∀ b, b < B → c1.idle b := fun b hb => ⟨Nat.lt_of_lt_of_le hb hok.base, fun id' bk' hb' e' => by
    have := ((hok.ok id' bk' (hHs hb').2).2.lt e').1
    omega⟩
  have hidc : ∀ b, c.idle b → c1.idle b := fun b hb => ⟨hb.1, fun id' bk' hb' => hb.2 id' bk' (hHs hb').2⟩
  have hheap : HeapOk c' B := by
    refine ⟨fun id blk hb => ?_, fun id blk g hb hg => ?_, fun i1 i2 b1 b2 g h1 h2 g1 g2 => ?_, hpost.heap.base, hpost.heap.lt, fun b hb => ?_⟩
    · by_cases h2 : c2.A id
      · rw [hH1 h2] at hb
        rw [hloc1 h2]
        obtain ⟨k1, k2⟩ := hpost.heap.ok id blk hb
        exact ⟨hle2.all id k1, k2.mono hle2 fun _ _ => rfl⟩
      · rw [hH0 h2] at hb
        rw [hloc0 h2]
        obtain ⟨k1, k2⟩ := hok.ok id blk hb
        exact ⟨.inl k1, k2.mono hle fun g hg => (hpost.only g (hidle h2 hb hg)).2.1⟩
    · by_cases h2 : c2.A id
      · rw [hH1 h2] at hb
        rw [hloc1 h2] at hg
        exact hpost.heap.own id blk g hb hg
      · rw [hH0 h2] at hb
        rw [hloc0 h2] at hg
        exact (hpost.only g (hidle h2 hb hg)).2.2 (hok.own id blk g hb hg)
    · by_cases a1 : c2.A i1
      · by_cases a2 : c2.A i2
        · rw [hH1 a1] at h1
          rw [hH1 a2] at h2
          rw [hloc1 a1] at g1
          rw [hloc1 a2] at g2
          exact hpost.heap.inj i1 i2 b1 b2 g h1 h2 g1 g2
        · rw [hH1 a1] at h1
          rw [hH0 a2] at h2
          rw [hloc1 a1] at g1
          rw [hloc0 a2] at g2
          exact absurd g1 ((hpost.only g (hidle a2 h2 g2)).1.2 i1 b1 h1)
      · by_cases a2 : c2.A i2
        · rw [hH0 a1] at h1
          rw [hH1 a2] at h2
          rw [hloc0 a1] at g1
          rw [hloc1 a2] at g2
          exact absurd g2 ((hpost.only g (hidle a1 h1 g1)).1.2 i2 b2 h2)
        · rw [hH0 a1] at h1
          rw [hH0 a2] at h2
          rw [hloc0 a1] at g1
          rw [hloc0 a2] at g2
          exact hok.inj i1 i2 b1 b2 g h1 h2 g1 g2
    · obtain ⟨k1, k2, k3⟩ := hpost.heap.pk b hb
      refine ⟨k1, ⟨k2.1, fun id blk hH e' => ?_⟩, k3⟩
      by_cases h2 : c2.A id
      · rw [hH1 h2] at hH
        rw [hloc1 h2] at e'
        exact k2.2 id blk hH e'
      · rw [hH0 h2] at hH
        rw [hloc0 h2] at e'
        rcases hpost.pkn b hb with h | h
        · exact (hok.pk b h).2.1.2 id blk hH e'
        · exact h (hidle h2 hH e')
  refine hnext r e v c' hK (hr.mono hle2) ⟨hle, hheap, rfl, fun id => Iff.rfl, hpost.below, fun b hb ho => (hpost.only b (hlow b hb)).2.2 ho, fun b hb => ?_, fun b hb => (hpost.pkn b hb).imp (fun h => h) fun h h' => h (hidc b h')⟩
  obtain ⟨k1, k2, k3⟩ := hpost.only b (hidc b hb)
  refine ⟨⟨k1.1, fun id' bk' hb' e' => ?_⟩, k2, k3⟩
  by_cases h2 : c2.A id'
  · rw [hH1 h2] at hb'
    rw [hloc1 h2] at e'
    exact k1.2 id' bk' hb' e'
  · rw [hH0 h2] at hb'
    rw [hloc0 h2] at e'
    exact hb.2 id' bk' hb' e'

theorem conv_str (hT : TyOk P T) (hok : HeapOk c B) {s d e : TypeId} {ts td te : TI} {x : Operand} (hop : o.op = .convert s d x) (hs : T s = some ts) (hsk : ts.k = .slice e) (he : T e = some te) (hek : te.k = .int .u8) (hd : T d = some td) (hdk : td.k = .str) {p : PV} (hx : Rep c false p (a.eval x))
    (h : rdS c.H p fun cs => match cs with
          | .ints .u8 xs => K (.str (xs.foldl (fun r n => r.push (UInt8.ofNat n.toNat)) ByteArray.empty)) []
          | .rows _ [] => K (.str ByteArray.empty) []
          | _ => False) : Does P o a c B K := by
  have hsu := (hT.slice s ts e hs hsk).1
  have heu := (hT.int e te .u8 he hek).1
  have hdu := (hT.str d td hd hdk).1
  obtain ⟨cs, hK, hc⟩ := rdS_ok hok hx h
  have hex : execOp a.eval o = (do pure (.value (← convert s d (a.eval x)))) := by simp only [execOp, hop]
  have key : ∀ A n cp, a.eval x = .slice A n cp → (convert s d (.slice A n cp)).run P c.w = (Conv.bytesToString (.slice A n cp)).run P c.w := fun A n cp _ => run_convert_bytes_string c.w s d e A n cp hsu heu hdu
  have hempty : ∀ A cp, (Conv.bytesToString (.slice A 0 cp)).run P c.w = .ok (.string ByteArray.empty) c.w := fun A cp => by
    cases A with
    | none => rfl
    | some ad =>
      have := run_bytesToString (P := P) c.w ad 0 cp [] (by rfl)
      simpa using this
  rcases hc with ⟨h0, A, cp, hv⟩ | ⟨h0, b, off, cp, hv, hcp, hat, hlt⟩
  · refine does_sem hex (by rw [hv, key A 0 cp hv]; exact hempty A cp) (.str ..) (pv := .str ByteArray.empty) ?_ hok
    split at hK
    · rename_i xs
      have : xs = [] := List.eq_nil_of_length_eq_zero h0
      subst this
      exact hK
    · exact hK
    · exact hK.elim
  · split at hK
    · rename_i xs
      refine does_sem hex (by
        rw [hv, key _ _ _ hv]
        refine run_bytesToString (P := P) c.w ⟨b, off, none⟩ _ cp xs ?_
        have hl : (loadCells ⟨b, off, none⟩ (xs.map (Value.int .u8)).length).run P c.w = .ok (xs.map (Value.int .u8)).toArray c.w := run_loadCells_list (P := P) c.w ⟨b, off, none⟩ (xs.map (Value.int .u8)) (fun j v hj => by
          have hj' : j < xs.length := by
            rcases Nat.lt_or_ge j xs.length with h | h
            · exact h
            · rw [List.getElem?_eq_none (by simpa using h)] at hj; cases hj
          obtain ⟨v', h1, h2, _⟩ := hat j 0 hj' (by simp [Cells.w])
          rw [Addr.add_lit]
          simp only [Cells.w, Nat.mul_one, Nat.add_zero] at h1
          rw [h1]
          cases h2
          simp [hj'] at hj
          subst hj
          simp [hj'])
        simpa [Cells.len] using hl) (.str ..) hK hok
    · exact absurd h0 (by simp [Cells.len])
    · exact hK.elim

theorem under_of (hT : TyOk P T) {t : TypeId} {ti : TI} (ht : T t = some ti) : ∃ d, P.underlying t = some d := by
  cases h : ti.k.agg with
  | true => obtain ⟨d, hd, _⟩ := agg_of hT ht h; exact ⟨d, hd⟩
  | false => obtain ⟨d, hd, _⟩ := plain_of hT ht h; exact ⟨d, hd⟩

theorem does_index (hT : TyOk P T) (hok : HeapOk c B) {t m e : TypeId} {x ix : Operand} (hop : o.op = .index t x ix) {ti te : TI} (ht : T t = some ti) (hk : ti.k = .arr m e) (hte : T e = some te) {k : IntKind} {i : Int} {cs : List PV} (hx : Rep c false (.agg cs) (a.eval x)) (hi : a.eval ix = .int k i) (h0 : 0 ≤ i) (h1 : i < m)
    (h : if te.k.agg then i.toNat * te.sz + te.sz ≤ cs.length ∧ K (.agg ((cs.drop (i.toNat * te.sz)).take te.sz)) [] else ∃ v, cs[i.toNat * te.sz]? = some v ∧ K v []) : Does P o a c B K := by
  have hu := hT.arr t ti m e ht hk
  obtain ⟨vs, hv, hr⟩ : ∃ vs : Array Value, a.eval x = .agg vs ∧ RepL c false cs vs.toList := by
    generalize a.eval x = v at hx
    cases hx with
    | agg _ _ vs h1 h2 => exact ⟨vs, rfl, repL_of h1 h2⟩
  have hex : execOp a.eval o = (do pure (.value (← Instr.index t (.agg vs) (.int k i)))) := by simp only [execOp, hop, hv, hi]
  have hidx : ∀ {r : Value}, (part e vs (i.toNat * te.sz)).run P c.w = .ok r c.w → (Instr.index t (.agg vs) (.int k i)).run P c.w = .ok r c.w := fun hp => by
    simp only [Instr.index, asIntOf, Sem.run_bind, Sem.run_pure, Result.andThen_ok, run_underlying hu, h0, h1, and_self, if_true, sizeOf_run hT hte, hp]
  split at h
  · rename_i hag
    obtain ⟨hl, hK⟩ := h
    obtain ⟨d, hd, hd'⟩ := agg_of hT hte hag
    refine does_sem (v := .agg (vs.extract (i.toNat * te.sz) (i.toNat * te.sz + te.sz))) hex (hidx (by
      simp only [part, Sem.run_bind, isAgg_run hd, hd', Result.andThen_ok, if_true, sizeOf_run hT hte, Sem.run_pure])) (.agg false _ _ ?_ fun j p v hp hv => ?_) hK hok
    · have := hr.1
      simp at this ⊢
      omega
    · have hj : j < te.sz := by
        rcases Nat.lt_or_ge j te.sz with h | h
        · exact h
        · rw [List.getElem?_eq_none (by simp; omega)] at hp; cases hp
      rw [List.getElem?_take_of_lt hj, List.getElem?_drop] at hp
      refine hr.2 _ p v hp ?_
      rw [Array.getElem?_extract] at hv
      split at hv
      · rw [Array.getElem?_toList]; exact hv
      · cases hv
  · rename_i hag
    obtain ⟨v, hc, hK⟩ := h
    obtain ⟨d, hd, hd', _⟩ := plain_of hT hte (by simpa using hag)
    have hlt : i.toNat * te.sz < vs.toList.length := by
      rw [← hr.1]
      exact (List.getElem?_eq_some_iff.1 hc).1
    have e1 : vs.toList[i.toNat * te.sz]? = some vs.toList[i.toNat * te.sz] := List.getElem?_eq_getElem hlt
    refine does_sem (v := vs.toList[i.toNat * te.sz]) hex (hidx (by
      simp only [part, Sem.run_bind, isAgg_run hd, hd', Result.andThen_ok, Bool.false_eq_true, if_false]
      rw [Array.getElem?_toList] at e1
      rw [e1]
      rfl)) (hr.2 _ _ _ hc e1) hK hok

theorem sl0_run (hT : TyOk P T) {t e : TypeId} {tt te : TI} (ht : T t = some tt) (hk : tt.k = .slice e) (hte : T e = some te) (A : Option Addr) (m cp : Nat) (w : World) : (Instr.sliceAt t (.slice A m cp) none (some (.int .i64 0)) (some (.int .i64 0))).run P w = .ok (.slice A 0 0) w := by
  have hu := (hT.slice t tt e ht hk).1
  simp [Instr.sliceAt, run_underlying hu, Instr.slice, Instr.sliceBounds, Instr.sliceBound, asIntOf, sizeOf_run hT hte]

theorem does_sl0 (hT : TyOk P T) (hok : HeapOk c B) {t e : TypeId} {x h m : Operand} (hop : o.op = .slice t x none (some h) (some m)) {tt te : TI} (ht : T t = some tt) (hk : tt.k = .slice e) (hte : T e = some te) {p : PV} (hx : Rep c false p (a.eval x)) (hh : a.eval h = .int .i64 0) (hm : a.eval m = .int .i64 0)
    (hs : sl0 c.H p fun v => K v []) : Does P o a c B K := by
  have hex : ∀ A m cp, a.eval x = .slice A m cp → execOp a.eval o = (do pure (.value (← Instr.sliceAt t (.slice A m cp) none (some (.int .i64 0)) (some (.int .i64 0))))) := fun A m cp hv => by simp only [execOp, hop, hv, Option.map_some, Option.map_none, hh, hm]
  have z : ∀ cs : Cells, (cs.sub 0 0).len = 0 := fun cs => by cases cs <;> simp [Cells.sub, Cells.len]
  cases p <;> try (exact hs.elim)
  case ro cs =>
    rcases ro_at hx with ⟨_, A, cp, hv⟩ | ⟨b, off, cp, hv, _⟩
    · exact does_sem (hex _ _ _ hv) (sl0_run hT ht hk hte _ _ _ c.w) (.nil false _ _ (z cs)) hs hok
    · exact does_sem (hex _ _ _ hv) (sl0_run hT ht hk hte _ _ _ c.w) (.nil false _ _ (z cs)) hs hok
  case nil cs =>
    obtain ⟨A, hv, h0⟩ : ∃ A, a.eval x = .slice A 0 0 ∧ cs.len = 0 := by
      generalize a.eval x = v at hx
      cases hx
      exact ⟨_, rfl, by assumption⟩
    exact does_sem (hex _ _ _ hv) (sl0_run hT ht hk hte _ _ _ c.w) (.nil false _ _ h0) hs hok
  case sl id off n tot =>
    unfold sl0 at hs
    dsimp only at hs
    split at hs
    · cases hx with
      | sl _ _ _ _ _ ha hsh hkk =>
        obtain ⟨A, cp, hv, _⟩ := hsh
        exact does_sem (hex _ _ _ hv) (sl0_run hT ht hk hte _ _ _ c.w) (.nil false _ _ (z _)) hs hok
    · exact hs.elim

def PV.slLen : PV → Option Nat
  | .ro cs => some cs.len
  | .nil _ => some 0
  | .sl _ _ n _ => some n
  | .asl _ _ n => some n
  | _ => none
theorem slice_shape {p : PV} {v : Value} (h : Rep c false p v) {n : Nat} (hn : p.slLen = some n) : ∃ A cp, v = .slice A n cp := by
  cases h <;> cases hn
  · exact ⟨_, _, rfl⟩
  · rename_i cs A cp h
    exact ⟨A, cp, by rw [h]⟩
  · exact ⟨_, _, rfl⟩
  all_goals
    rename_i hs _
    obtain ⟨A, cp, h, _⟩ := hs
    exact ⟨A, cp, h⟩

theorem does_blt (hok : HeapOk c B) {cl : Call} (hop : o.op = .call cl) {b : Builtin} (hcl : cl.callee = .builtin b) {s : Sem Value} (hs : ∀ cs, builtin b cl.argTypes o.type cs (cl.args.map a.eval) = (do pure (.value (← s)))) {v : Value} {pv : PV} (hr : s.run P c.w = .ok v c.w) (hp : Rep c false pv v) (hK : K pv []) : Does P o a c B K := by
  refine does_val (v := v) ?_ hp hK hok
  simp only [execOp, hop, resolve, hcl, Sem.run_bind, Sem.run_pure, Result.andThen_ok, invoke]
  rw [hs]
  simp [hr]
end Go.Pv


namespace Go.Pv
set_option linter.unusedVariables false
set_option linter.unusedSimpArgs false
open Go Go.RowKit
variable {P : Program} {T : Ty} {o : Oper} {a : Act} {c : Cx} {B n : Nat} {tm : Nat → PV} {K : PV → Eff → Prop}

theorem len_run {t : TypeId} {d : TypeDesc} (hu : P.underlying t = some d) (ty : TypeId) {v : Value} {r : Nat} (h : (∃ e A cp, d = .slice e ∧ v = .slice A r cp) ∨ (∃ s, d = .string ∧ v = .string s ∧ s.size = r)) (w : World) : (Builtin.len_ #[t] ty #[v]).run P w = .ok (.int .i64 r) w := by
  rcases h with ⟨e, A, cp, rfl, rfl⟩ | ⟨s, rfl, rfl, rfl⟩
  · simp [Builtin.len_, run_underlying hu, goInt]
  · simp [Builtin.len_, run_underlying hu, goInt]

theorem mxF_ok (mx : Bool) {k : IntKind} {K : Int → Prop} : ∀ (ps : List PV) (us : List Value) (x : Int), RepL c false ps us → mxF mx k x ps K → ∃ r, K r ∧ (us.foldlM (if mx then Builtin.max2 else Builtin.min2) (Value.int k x)).run P c.w = .ok (.int k r) c.w
  | [], us, x, hr, h => by
    have : us = [] := by have := hr.1; simpa using this.symm
    subst this
    exact ⟨x, h, rfl⟩
  | p :: ps, us, x, hr, h => by
    obtain ⟨u, us, rfl, hp, hr'⟩ := hr.uncons
    unfold mxF at h
    split at h
    · rename_i k' b
      obtain ⟨rfl, h⟩ := h
      cases hp
      cases mx with
      | true =>
        obtain ⟨r, h1, h2⟩ := mxF_ok true ps us _ hr' h
        exact ⟨r, h1, by simpa [List.foldlM_cons, Builtin.max2] using h2⟩
      | false =>
        obtain ⟨r, h1, h2⟩ := mxF_ok false ps us _ hr' h
        exact ⟨r, h1, by simpa [List.foldlM_cons, Builtin.min2] using h2⟩
    · exact h.elim

theorem bltn_sound (hT : TyOk P T) (hok : HeapOk c B) (hn : ¬ c.A n) {ρ : TypeId → Operand → PV} (hρ : ∀ t x, Rep c false (ρ t x) (a.eval x)) {cl : Call} (hop : o.op = .call cl) {b : Builtin} (hcl : cl.callee = .builtin b)
    (h : bltn T ρ c.H n b cl.args.toList cl.argTypes.toList K) : Does P o a c B K := by
  obtain ⟨callee, args, ats⟩ := cl
  obtain ⟨args⟩ := args
  obtain ⟨ats⟩ := ats
  dsimp only at h hcl
  unfold bltn at h
  split at h
  · rename_i x t
    have hx := hρ t x
    have hs := fun n => slice_shape hx (n := n)
    split at h
    · rename_i ti ht
      have key : ∀ {d : TypeDesc} {r : Nat}, P.underlying t = some d → ((∃ e A cp, d = .slice e ∧ a.eval x = .slice A r cp) ∨ (∃ s, d = .string ∧ a.eval x = .string s ∧ s.size = r)) → K (.int .i64 r) [] → Does P o a c B K := fun hu hv hK =>
        does_blt hok hop hcl (s := Builtin.len_ (List.toArray [t]) o.type ((List.toArray [x]).map a.eval)) (fun cs => rfl) (by simpa using len_run hu o.type hv c.w) (.int ..) hK
      split at h
      · rename_i e cs hk hp
        obtain ⟨A, cp, hv⟩ := hs _ (by rw [hp]; rfl)
        exact key (hT.slice t ti e ht hk).1 (.inl ⟨e, A, cp, rfl, hv⟩) h
      · rename_i e cs hk hp
        obtain ⟨A, cp, hv⟩ := hs _ (by rw [hp]; rfl)
        exact key (r := 0) (hT.slice t ti e ht hk).1 (.inl ⟨e, A, cp, rfl, hv⟩) h
      · rename_i e _ _ m _ hk hp
        obtain ⟨A, cp, hv⟩ := hs _ (by rw [hp]; rfl)
        exact key (hT.slice t ti e ht hk).1 (.inl ⟨e, A, cp, rfl, hv⟩) h
      · rename_i e _ _ m hk hp
        obtain ⟨A, cp, hv⟩ := hs _ (by rw [hp]; rfl)
        exact key (hT.slice t ti e ht hk).1 (.inl ⟨e, A, cp, rfl, hv⟩) h
      · rename_i s hk hp
        rw [hp] at hx
        have hv : a.eval x = .string s := by
          generalize a.eval x = v at hx
          cases hx
          rfl
        exact key (hT.str t ti ht hk).1 (.inr ⟨s, rfl, hv, rfl⟩) h
      · exact h.elim
    · exact h.elim
  · rename_i x xs t ts
    have hx := hρ t x
    split at h
    · rename_i k i hp
      rw [hp] at hx
      have hv : a.eval x = .int k i := by
        generalize a.eval x = v at hx
        cases hx
        rfl
      obtain ⟨r, hK, hr⟩ := mxF_ok (P := P) false _ _ i (args_ok hρ xs ts) h
      refine does_blt hok hop hcl (s := Builtin.min_ (List.toArray (t :: ts)) o.type ((List.toArray (x :: xs)).map a.eval)) (fun cs => rfl) (v := .int k r) ?_ (.int ..) hK
      simpa [Builtin.min_, hv] using hr
    · exact h.elim
  · rename_i x xs t ts
    have hx := hρ t x
    split at h
    · rename_i k i hp
      rw [hp] at hx
      have hv : a.eval x = .int k i := by
        generalize a.eval x = v at hx
        cases hx
        rfl
      obtain ⟨r, hK, hr⟩ := mxF_ok (P := P) true _ _ i (args_ok hρ xs ts) h
      refine does_blt hok hop hcl (s := Builtin.max_ (List.toArray (t :: ts)) o.type ((List.toArray (x :: xs)).map a.eval)) (fun cs => rfl) (v := .int k r) ?_ (.int ..) hK
      simpa [Builtin.max_, hv] using hr
    · exact h.elim
  · rename_i s x t u
    obtain ⟨rfl, h⟩ := h
    split at h
    · exact h.elim
    · rename_i tt ht
      split at h
      · rename_i e hk
        split at h
        · exact h.elim
        · rename_i te hte
          exact does_append hT hok hn (fun hr => by simp [execOp, hop, resolve, hcl, invoke, builtin, hr]) ht hk hte h.1 (hρ u s) (hρ u x) h.2
      · exact h.elim
  · rename_i d s t u
    split at h
    · exact h.elim
    · rename_i tt ht
      split at h
      · rename_i e hk
        split at h
        · exact h.elim
        · rename_i te hte
          exact does_copy (t := t) (u := u) hT hok (fun hr => by simp [execOp, hop, resolve, hcl, invoke, builtin, hr]) ht hk hte (hρ t d) (hρ u s) h
      · exact h.elim
  · exact h.elim
end Go.Pv


namespace Go.Pv
set_option linter.unusedVariables false
set_option linter.unusedSimpArgs false
open Go Go.RowKit
variable {P : Program} {T : Ty} {o : Oper} {a : Act} {c : Cx} {B n : Nat} {tm : Nat → PV} {K : PV → Eff → Prop}

theorem zp_len : ∀ (z z' : List PV), zp z = some z' → z'.length = z.length
  | [], z', h => by simp [zp] at h; subst h; rfl
  | p :: r, z', h => by
    unfold zp at h
    split at h <;> first | (cases h; done) | skip
    all_goals (rename_i hr; cases h; simp [zp_len r _ hr])
theorem zp_ok : ∀ (z z' : List PV) (us : List Value), zp z = some z' → RepL c false z us → RepL c true z' us
  | [], z', us, h, hr => by
    simp [zp] at h; subst h
    have : us = [] := by have := hr.1; simpa using this.symm
    subst this
    exact .nil
  | p :: r, z', us, h, hr => by
    obtain ⟨u, us, rfl, hp, hr'⟩ := hr.uncons
    unfold zp at h
    split at h <;> first | (cases h; done) | skip
    all_goals (rename_i hz; cases h)
    · exact .cons (hp.pure1 trivial) (zp_ok r _ us hz hr')
    · exact .cons (hp.pure1 trivial) (zp_ok r _ us hz hr')
    · exact .cons (hp.pure1 trivial) (zp_ok r _ us hz hr')
    · exact .cons (hp.pure1 trivial) (zp_ok r _ us hz hr')
    · exact .cons (nil_ro (hp.pure1 trivial)) (zp_ok r _ us hz hr')

theorem make_rows (hT : TyOk P T) (hok : HeapOk c B) (hn : ¬ c.A n) {t e : TypeId} {l cp : Operand} (hop : o.op = .makeSlice t l cp) {tt te : TI} (ht : T t = some tt) (hk : tt.k = .slice e) (hte : T e = some te) {k1 k2 : IntKind} {y : Int} (hl : a.eval l = .int k1 y) (hc : a.eval cp = .int k2 y)
    (h0 : 0 ≤ y) (hb1 : y * te.bytes ≤ 140737488355328) (hb2 : y ≤ 140737488355328) (hs0 : 0 < te.sz) {z z' : List PV} (hz : cellsOf te.zero = some z) (hone : z.all PV.one = true) (hz' : zp z = some z')
    (h : K (.ro (.rows te.sz (List.replicate y.toNat z'))) [] ∨ K (.sl n 0 y.toNat y.toNat) [(n, some ⟨.rows te.sz (List.replicate y.toNat z'), false, e⟩)]) : Does P o a c B K := by
  have hzl : z.length = te.sz := by
    obtain ⟨i, zv, _, _, hzs, _, _, hzr⟩ := zero_rep hT hte
    have := (cells_rep hz (hzr c false)).1
    simp at this
    omega
  have hzl' : z'.length = te.sz := by rw [← hzl]; exact zp_len z z' hz'
  refine does_make (cs := .rows te.sz (List.replicate y.toNat z')) hT hok hn hop ht hk hte hl hc h0 hb1 hb2 hs0 (by simp [Cells.len]) rfl (fun zv hzs hzr i j hi hj => ?_) h
  have hcell := cells_rep hz hzr
  have hpure := zp_ok z z' _ hz' hcell
  have hj' : j < z'.length := by omega
  have hjv : j < zv.cells.toList.length := by rw [← hpure.1]; exact hj'
  have e1 : zv.cells.toList[j]? = some zv.cells.toList[j] := List.getElem?_eq_getElem hjv
  have e2 : z'[j]? = some z'[j] := List.getElem?_eq_getElem hj'
  have e3 : z[j]? = some (z[j]'(by omega)) := List.getElem?_eq_getElem (by omega)
  refine ⟨zv.cells.toList[j], by rw [← Array.getElem?_toList]; exact e1, ?_, one_rep (List.all_eq_true.1 hone _ (List.getElem_mem _)) (hcell.2 j _ _ e3 e1)⟩
  have e4 : (Cells.rows te.sz (List.replicate y.toNat z')).get i j = z'[j] := by
    simp [Cells.get, List.getD_eq_getElem?_getD, List.getElem?_replicate, hi, e2]
  rw [e4]
  exact hpure.2 j _ _ e2 e1

theorem opv_sound (hT : TyOk P T) (hok : HeapOk c B) (hn8 : ∀ q, q < 8 → ¬ c.A (n + q)) {ρ : TypeId → Operand → PV} (hρ : ∀ t x, Rep c false (ρ t x) (a.eval x)) (h : opv P T o ρ c.H n K) : Does P o a c B K := by
  have hn : ¬ c.A n := hn8 0 (by omega)
  cases hop : o.op <;> simp only [opv, hop] at h <;> try (exact h.elim)
  case move x => exact does_val (by simp only [execOp, hop]; rfl) (hρ o.type x) h hok
  case assign x => exact does_val (by simp only [execOp, hop]; rfl) (hρ o.type x) h hok
  case pick cc x y =>
    have hc := hρ 0 cc
    split at h
    · rename_i t ht
      rw [ht] at hc
      have hv : a.eval cc = .bool t := by
        generalize a.eval cc = v at hc
        cases hc
        rfl
      cases t with
      | true => exact does_val (by simp only [execOp, hop, hv, asBool, Sem.run_bind, Sem.run_pure, Result.andThen_ok, if_true]) (hρ o.type x) (h.1 rfl) hok
      | false => exact does_val (by simp only [execOp, hop, hv, asBool, Sem.run_bind, Sem.run_pure, Result.andThen_ok, Bool.false_eq_true, if_false]) (hρ o.type y) (h.2 rfl) hok
    · exact h.elim
  case alloc e =>
    split at h
    · rename_i ti ht
      split at h
      · rename_i vs hc
        obtain ⟨i, z, hi, hz, _, _, _, hzr⟩ := zero_rep hT ht
        refine does_boxed (v := z) hok hn ?_ (hzr c false) hc h.1 h.2
        simp [execOp, hop, Instr.alloc, zeroValue, typeInfo, hi, hz, newVar, newRow]
      · obtain ⟨i, z, hi, hz, _, _, _, hzr⟩ := zero_rep hT ht
        obtain ⟨k1, k2⟩ := hT.any1 _ ti i z ht h.1 hi hz
        refine does_any (v := z) hok hn ?_ k1 k2 h.2
        simp [execOp, hop, Instr.alloc, zeroValue, typeInfo, hi, hz, newVar, newRow]
    · exact h.elim
  case box e x =>
    split at h
    · rename_i vs hc
      exact does_boxed (v := a.eval x) hok hn (by simp [execOp, hop, Instr.box, newVar, newRow]) (hρ e x) hc h.1 h.2
    · exact h.elim
  case build t parts =>
    split at h
    · rename_i ti ht
      split at h
      · rename_i z hz
        split at h
        · rename_i fs hk
          refine does_build hT hok hρ hop ht hz (.inl ⟨fs, hk, fun i o s t hq => ?_⟩) h
          split at hq
          · rename_i ft off hf
            split at hq
            · rename_i tf htf
              cases hq
              exact ⟨tf, hf, htf, rfl⟩
            · cases hq
          · cases hq
        · rename_i m e hk
          split at h
          · rename_i te hte
            exact does_build hT hok hρ hop ht hz (.inr ⟨m, e, te, hk, hte, fun i o s t hq => by cases hq; exact ⟨rfl, rfl⟩⟩) h
          · exact h.elim
        · exact h.elim
      · exact h.elim
    · exact h.elim
  case buildSlice t len parts =>
    split at h
    · rename_i tt ht
      split at h
      · rename_i e hk
        split at h
        · rename_i te hte
          obtain ⟨h0, h1, h2, h⟩ := h
          split at h
          · rename_i z hz
            exact does_lit hT hok hn hρ hop ht hk hte h0 h1 h2 hz h
          · exact h.elim
        · exact h.elim
      · exact h.elim
    · exact h.elim
  case load t x =>
    split at h
    · rename_i ti ht
      exact does_load hT hok hop (hρ 0 x) ht h
    · exact h.elim
  case store t x y =>
    split at h
    · rename_i ti ht
      have hx := hρ 0 x
      split at h
      · rename_i id i j tot hp
        rw [hp] at hx
        split at h
        · rename_i b hb
          obtain ⟨hl, h⟩ := h
          split at h
          · rename_i vs hc
            exact does_store hT hok hop ht hx (hρ t y) hb hl hc h.1 h.2.1 h.2.2.1 h.2.2.2
          · exact h.elim
        · exact h.elim
      · exact h.elim
    · exact h.elim
  case nilCheck x =>
    have hx := hρ 0 x
    split at h
    · rename_i id i j tot hp
      rw [hp] at hx
      obtain ⟨hl, h⟩ := h
      unfold live at hl
      split at hl
      · rename_i b hb
        obtain ⟨g, hg, hv, _⟩ := ptr_own hok hx hb hl
        exact does_val (v := a.eval x) (by simp only [execOp, hop, hv]; rfl) hx h hok
      · exact hl.elim
    · rename_i cs i j hp
      rw [hp] at hx
      obtain ⟨b, off, hv, _⟩ := rop_at hx
      exact does_val (v := a.eval x) (by simp only [execOp, hop, hv]; rfl) hx h hok
    · rename_i f caps hp
      rw [hp] at hx
      have hv : ∃ vs, a.eval x = .func (.func f) #[] vs := by
        generalize a.eval x = v at hx
        cases hx
        exact ⟨_, rfl⟩
      obtain ⟨vs, hv⟩ := hv
      exact does_val (v := a.eval x) (by simp only [execOp, hop, hv]; rfl) hx h hok
    · exact h.elim
  case binOp op t x y u =>
    obtain ⟨r, pv, h1, h2, h3⟩ := bin_ok (K := fun v => K v []) (xo := x) (yo := y) hT (hρ t x) (hρ u y) h
    exact does_sem (by simp only [execOp, hop]) h1 h2 h3 hok
  case unOp op t x =>
    have hx := hρ t x
    split at h
    · rename_i b hp
      rw [hp] at hx
      have hv : a.eval x = .bool b := by
        generalize a.eval x = v at hx
        cases hx
        rfl
      exact does_sem (s := Op.unary .not (.bool b)) (by simp only [execOp, hop, hv]) rfl (.bool ..) h hok
    · rename_i k i hp
      rw [hp] at hx
      have hv : a.eval x = .int k i := by
        generalize a.eval x = v at hx
        cases hx
        rfl
      exact does_sem (s := Op.unary .neg (.int k i)) (by simp only [execOp, hop, hv]) rfl (.int ..) h hok
    · exact h.elim
  case convert s d x =>
    have hx := hρ s x
    split at h
    · rename_i td ts hd hs
      split at h
      · rename_i k hk
        split at h
        · rename_i k' i hp
          rw [hp] at hx
          have hv : a.eval x = .int k' i := by
            generalize a.eval x = v at hx
            cases hx
            rfl
          obtain ⟨ds, hds⟩ := under_of hT hs
          have hdu := (hT.int d td k hd hk).1
          refine does_sem (s := convert s d (.int k' i)) (by simp only [execOp, hop, hv]) (v := .int k (k.wrap i)) ?_ (.int ..) h hok
          simp [convert, run_underlying hds, run_underlying hdu, Conv.intToInt]
        · exact h.elim
      · rename_i hk
        split at h
        · rename_i e hsk
          split at h
          · rename_i te hte
            exact conv_str hT hok hop hs hsk hte h.1 hd hk hx h.2
          · exact h.elim
        · exact h.elim
      · exact h.elim
    · exact h.elim
  case makeFunc fn first caps =>
    split at h
    · rename_i f
      obtain ⟨rfl, h⟩ := h
      have hl := args_ok hρ caps.toList []
      refine does_val (v := .func (.func f) #[] (caps.map a.eval)) (by simp only [execOp, hop, Array.map_empty]; rfl) (.fn false f _ _ (by have := hl.1; simpa using this) fun i q v h1 h2 => hl.2 i q v h1 (by rw [← Array.getElem?_toList] at h2; simpa using h2)) h hok
    · exact h.elim
  case makeSlice t l cp =>
    split at h
    · rename_i tt ht
      split at h
      · rename_i e hk
        split at h
        · rename_i te hte
          obtain ⟨k1, x, hl, h⟩ := idx_ok (hρ 0 l) h
          obtain ⟨k2, y, hc, h⟩ := idx_ok (hρ 0 cp) h
          obtain ⟨rfl, h0, hb1, hb2, hs0, h⟩ := h
          split at h
          · rename_i z hz
            obtain ⟨hone, h⟩ := h
            split at h
            · rename_i k k' hk' 
              obtain ⟨rfl, h⟩ := h
              have hsz := (hT.int e te _ hte hk').2
              refine does_make (cs := .ints k' (List.replicate y.toNat 0)) hT hok hn hop ht hk hte hl hc h0 hb1 hb2 hs0 (by simp [Cells.len]) hsz.symm (fun zv hzs hzr i j hi hj => ?_) h
              have hcell := cells_rep hz hzr
              obtain ⟨u, us', hus, hu, _⟩ := hcell.uncons
              have hj0 : j = 0 := by omega
              subst hj0
              refine ⟨u, by rw [← Array.getElem?_toList, hus]; rfl, ?_, one_rep rfl hu⟩
              cases hu
              simp [Cells.get, List.getD_eq_getElem?_getD, List.getElem?_replicate, hi]
              exact .int ..
            · exact h.elim
            · split at h
              · rename_i z' hz'
                exact make_rows hT hok hn hop ht hk hte hl hc h0 hb1 hb2 hs0 hz hone hz' h
              · exact h.elim
          · exact h.elim
        · exact h.elim
      · exact h.elim
    · exact h.elim
  case slice t x lo hi mx =>
    split at h
    · rename_i tt ht
      split at h
      · rename_i e hk
        split at h
        · rename_i te hte
          split at h
          · rename_i m
            obtain ⟨rfl, h1, h2, h⟩ := h
            split at h1
            · rename_i hh
              have e1 : ∀ y, ρ 0 y = .int .i64 0 → a.eval y = .int .i64 0 := fun y hy => by
                have := hρ 0 y
                rw [hy] at this
                generalize a.eval y = v at this
                cases this
                rfl
              exact does_sl0 hT hok hop ht hk hte (hρ t x) (e1 _ h1) (e1 _ h2) h
            · exact h1.elim
          · exact does_sl hT hok hρ hop ht hk hte (hρ t x) h
        · exact h.elim
      · rename_i m e hk
        obtain ⟨rfl, rfl, he, h⟩ := h
        obtain ⟨te, hte⟩ := Option.isSome_iff_exists.1 he
        exact does_slA hT hok hρ hop ht hk hte h
      · exact h.elim
    · exact h.elim
  case fieldAddr t x f =>
    split at h
    · rename_i ti ht
      split at h
      · rename_i fs hk
        split at h
        · rename_i ft off hf
          obtain ⟨h1, h⟩ := h
          split at h1
          · rename_i tf htf
            exact does_field hT hok hop (hρ 0 x) ht hk hf htf h1 h
          · exact h1.elim
        · exact h.elim
      · exact h.elim
    · exact h.elim
  case indexAddr t x ix =>
    split at h
    · rename_i ti ht
      split at h
      · rename_i e hk
        split at h
        · exact h.elim
        · rename_i te hte
          exact does_indexSl hT hok hop (hρ t x) (hρ 0 ix) ht hk hte h
      · rename_i m e hk
        split at h
        · exact h.elim
        · rename_i te hte
          exact does_indexArr hT hok hop (hρ 0 x) (hρ 0 ix) ht hk hte h
      · exact h.elim
    · exact h.elim
  case index t x ix =>
    split at h
    · rename_i ti ht
      split at h
      · rename_i m e hk
        split at h
        · rename_i te hte
          obtain ⟨k, i, hi, h⟩ := idx_ok (hρ 0 ix) h
          have hx := hρ t x
          split at h
          · rename_i cs hp
            rw [hp] at hx
            exact does_index hT hok hop ht hk hte hx hi h.1 h.2.1 h.2.2
          · exact h.elim
        · exact h.elim
      · exact h.elim
    · exact h.elim
  case extract x i =>
    have hx := hρ 0 x
    split at h
    · rename_i vs hp
      rw [hp] at hx
      split at h
      · rename_i v hv
        obtain ⟨us, hu, hr⟩ : ∃ us : Array Value, a.eval x = .tuple us ∧ RepL c false vs us.toList := by
          generalize a.eval x = w at hx
          cases hx with
          | tup _ _ us h1 h2 => exact ⟨us, rfl, repL_of h1 h2⟩
        have hlt : i < us.toList.length := by rw [← hr.1]; exact (List.getElem?_eq_some_iff.1 hv).1
        have e1 : us.toList[i]? = some us.toList[i] := List.getElem?_eq_getElem hlt
        refine does_sem (s := Instr.extract (.tuple us) i) (by simp only [execOp, hop, hu]) (v := us.toList[i]) ?_ (hr.2 i _ _ hv e1) h hok
        rw [Array.getElem?_toList] at e1
        simp only [Instr.extract, e1]
        rfl
      · exact h.elim
    · exact h.elim
  case call cl =>
    split at h
    · rename_i b hcl
      exact bltn_sound hT hok hn hρ hop hcl h
    · rename_i f hcl
      split at h
      · rename_i g caps hf
        rcases h with h | h
        · exact does_call hok hρ hop hcl hf h
        · exact does_hcall hok hn8 hρ hop hcl hf h
      · exact h.elim
    · exact h.elim
end Go.Pv

