import Derived.Test.YtgheplondkoedaaPvg
namespace Go.Pv
set_option linter.unusedVariables false
set_option linter.unusedSimpArgs false
open Go Go.RowKit
variable {P : Program} {T : Ty} {o : Oper} {a : Act} {c : Cx} {B n : Nat} {tm : Nat → PV} {K : PV → Eff → Prop}

theorem cells_rep {q : Bool} {p : PV} {v : Value} {ps : List PV} (hp : cellsOf p = some ps) (h : Rep c q p v) : RepL c q ps v.cells.toList := by
  cases h with
  | any => cases hp
  | tup => cases hp
  | opt => cases hp
  | asl => cases hp
  | yld => cases hp
  | agg _ cs vs h1 h2 => cases hp; exact repL_of h1 h2
  | bool => cases hp; exact .cons (.bool ..) .nil
  | int => cases hp; exact .cons (.int ..) .nil
  | str => cases hp; exact .cons (.str ..) .nil
  | nilf => cases hp; exact .cons (.nilf _) .nil
  | nil _ cs A h => cases hp; exact .cons (.nil _ cs A h) .nil
  | ro0 _ cs A cp h => cases hp; exact .cons (.ro0 _ cs A cp h) .nil
  | ro _ cs b off cp f h1 h2 h3 h4 h5 h6 => cases hp; exact .cons (.ro _ cs b off cp f h1 h2 h3 h4 h5 h6) .nil
  | rop _ cs i j b off f h1 h2 h3 h4 => cases hp; exact .cons (.rop _ cs i j b off f h1 h2 h3 h4) .nil
  | sl id off n tot v ha hs hk =>
    cases hp
    obtain ⟨A, cp, rfl, _⟩ := hs
    exact .cons (.sl id off n tot _ ha ⟨A, cp, rfl, by assumption⟩ hk) .nil
  | ptr id i j tot v ha hs hk =>
    cases hp
    obtain ⟨x, rfl⟩ := hs
    exact .cons (.ptr id i j tot _ ha ⟨x, rfl⟩ hk) .nil
  | fn _ f caps vs h1 h2 => cases hp; exact .cons (.fn _ f caps vs h1 h2) .nil

theorem one_rep {q : Bool} {p : PV} {v : Value} (hp : p.one = true) (h : Rep c q p v) : v.oneCell' = true := by
  cases h <;> first | rfl | (cases hp; done) | skip
  · rename_i hs hk
    obtain ⟨A, cp, rfl, _⟩ := hs
    rfl
  · rename_i hs hk
    obtain ⟨x, rfl⟩ := hs
    rfl

/-- The cells of a value go into a box. -/
theorem reps_box {q : Bool} {vs : List PV} {us : List Value} (h : RepL c q vs us) (h1 : vs.all PV.one = true) : Reps c q (.rows vs.length [vs]) us := by
  refine ⟨by simp [Cells.len, Cells.w, h.1], fun i j hi hj => ?_⟩
  simp only [Cells.len, Cells.w, List.length_cons, List.length_nil] at hi hj
  obtain rfl : i = 0 := by omega
  have hj' : j < us.length := by rw [← h.1]; exact hj
  have e1 : vs[j]? = some vs[j] := List.getElem?_eq_getElem hj
  have e2 : us[j]? = some us[j] := List.getElem?_eq_getElem hj'
  have hr := h.2 j _ _ e1 e2
  refine ⟨us[j], by rw [Nat.zero_mul, Nat.zero_add]; exact e2, ?_, one_rep (List.all_eq_true.1 h1 _ (List.getElem_mem hj)) hr⟩
  simp [Cells.get, hj]
  exact hr

theorem does_boxed (hok : HeapOk c B) (hn : ¬ c.A n) {e : TypeId} {v : Value} (hex : (execOp a.eval o).run P c.w = .ok (.value (.pointer (some ⟨c.w.heap.size, 0, none⟩))) (c.w.alloc (.cells v.cells e))) {p : PV} {vs : List PV} (hp : Rep c false p v) (hc : cellsOf p = some vs) (h1 : vs.all PV.one = true)
    (h : K (.ptr n 0 0 1) [(n, some ⟨.rows vs.length [vs], true, e⟩)]) : Does P o a c B K := fun next Q hnext => by
  have hl := cells_rep hc hp
  obtain ⟨c', hw, hloc, hpost⟩ := post_new (id := n) (V' := .pointer (some ⟨c.w.heap.size, 0, none⟩)) (blk' := ⟨.rows vs.length [vs], true, e⟩) hok hn (World.grownBy_alloc c.w (.cells v.cells e) none) (fun g hg => by simp [blkOf] at hg; omega)
    (fun c' hle hw' => by
      unfold BlkOk
      rw [if_pos rfl]
      refine ⟨c.w.heap.size, v.cells.toList, e, rfl, hok.base, ?_, reps_box (hl.mono hle) h1⟩
      show c'.w.heap[c.w.heap.size]? = _
      rw [hw']
      simpa using heap_alloc_new c.w (.cells v.cells e))
  unfold Oper.wp
  rw [hex, ← hw]
  refine hnext _ _ _ c' h ?_ hpost
  refine .ptr n 0 0 1 _ ((hpost.A n).2 (.inr (by simp))) ⟨_, rfl⟩ fun b hb => ?_
  rw [hpost.H] at hb
  simp [Eff.on, put_same] at hb
  subst hb
  refine ⟨by simp [Cells.len], fun _ => ⟨c.w.heap.size, by rw [hloc, put_same]; rfl, by simp⟩⟩

theorem splice_at {α : Type} (l us : List α) (p k : Nat) (h : p + us.length ≤ l.length) : (l.take p ++ us ++ l.drop (p + us.length))[k]? = if k < p then l[k]? else if k < p + us.length then us[k - p]? else l[k]? := by
  have hl : (l.take p).length = p := by rw [List.length_take]; omega
  split
  · rename_i hk
    rw [List.append_assoc, List.getElem?_append_left (by omega), List.getElem?_take_of_lt hk]
  · split
    · rw [List.append_assoc, List.getElem?_append_right (by omega), List.getElem?_append_left (by omega), hl]
    · rw [List.getElem?_append_right (by rw [List.length_append]; omega), List.getElem?_drop, List.length_append, hl]
      congr 1
      omega

theorem idx_lt {i i0 w j : Nat} (h : i < i0) (hj : j < w) : i * w + j < i0 * w := by
  have : (i + 1) * w ≤ i0 * w := Nat.mul_le_mul_right _ h
  rw [Nat.add_mul] at this
  omega

theorem reps_set {q : Bool} {cs : Cells} {olds us : List Value} {ps : List PV} {i0 j0 : Nat} {K : Cells → Prop} (h : Reps c q cs olds) (hst : stC cs i0 j0 ps K) (hl : RepL c q ps us) (h1 : ∀ u ∈ us, u.oneCell' = true) :
    ∃ cs', K cs' ∧ (∀ L q, cs' ≠ .lp L q) ∧ cs'.len = cs.len ∧ cs'.w = cs.w ∧ i0 * cs.w + j0 + us.length ≤ olds.length ∧ Reps c q cs' (olds.take (i0 * cs.w + j0) ++ us ++ olds.drop (i0 * cs.w + j0 + us.length)) := by
  cases cs with
  | ints k xs =>
    cases ps with
    | nil => exact hst.elim
    | cons p ps =>
      cases ps with
      | cons => cases p <;> exact hst.elim
      | nil =>
        cases p <;> try (exact hst.elim)
        rename_i k' m
        obtain ⟨hi, rfl, rfl, hK⟩ := hst
        obtain ⟨u, us', rfl, hu, hr⟩ := hl.uncons
        have hn : us' = [] := by have := hr.1; simpa using this.symm
        subst hn
        cases hu
        have hlen := h.1
        simp only [Cells.len, Cells.w, Nat.mul_one] at hlen
        have hb : i0 * (Cells.ints k' xs).w + 0 + [Value.int k' m].length ≤ olds.length := by simp [Cells.w]; omega
        refine ⟨_, hK, (fun _ _ h => by cases h), by simp [Cells.len], rfl, hb, ⟨?_, fun i j hi' hj => ?_⟩⟩
        · simp [Cells.len, Cells.w] at *; omega
        · have hj0 : j = 0 := by simp [Cells.w] at hj; omega
          subst hj0
          rw [splice_at _ _ _ _ hb]
          simp only [Cells.len, List.length_set] at hi'
          simp only [Cells.w, Nat.mul_one, Nat.add_zero, List.length_cons, List.length_nil]
          obtain ⟨v, h2, h3, h4⟩ := h.2 i 0 hi' (by simp [Cells.w])
          simp only [Cells.w, Nat.mul_one, Nat.add_zero] at h2
          by_cases he : i = i0
          · subst he
            refine ⟨.int k' m, by simp, ?_, rfl⟩
            simp [Cells.get, hi]
            exact .int ..
          · refine ⟨v, ?_, ?_, h4⟩
            · split
              · exact h2
              · rw [if_neg (by omega)]; exact h2
            · simp only [Cells.get, List.getD_eq_getElem?_getD] at h3 ⊢
              rw [List.getElem?_set_ne (fun e => he e.symm)]
              exact h3
  | lp L ps => exact hst.elim
  | rows w rs =>
    obtain ⟨hi, hj, hrow, hone, hK⟩ := hst
    have hul : us.length = ps.length := hl.1.symm
    have hlen := h.1
    simp only [Cells.len, Cells.w] at hlen
    have hb : i0 * w + j0 + us.length ≤ olds.length := by
      have h5 : (i0 + 1) * w ≤ rs.length * w := Nat.mul_le_mul_right _ hi
      rw [Nat.add_mul] at h5
      omega
    refine ⟨_, hK, (fun _ _ h => by cases h), by simp [Cells.len], rfl, hb, ⟨?_, fun i j hi' hj' => ?_⟩⟩
    · simp only [List.length_append, List.length_take, List.length_drop, Cells.len, Cells.w, List.length_set] at *
      omega
    · simp only [Cells.len, List.length_set, Cells.w] at hi' hj'
      show ∃ v, (olds.take (i0 * w + j0) ++ us ++ olds.drop (i0 * w + j0 + us.length))[i * w + j]? = some v ∧ _
      rw [splice_at _ _ _ _ hb]
      obtain ⟨v, h2, h3, h4⟩ := h.2 i j hi' hj'
      simp only [Cells.w] at h2
      by_cases he : i = i0
      · subst he
        have hget : (Cells.rows w (rs.set i ((rs.getD i []).take j0 ++ ps ++ (rs.getD i []).drop (j0 + ps.length)))).get i j = (((rs.getD i []).take j0 ++ ps ++ (rs.getD i []).drop (j0 + ps.length))[j]?).getD .any := by
          simp only [Cells.get, List.getD_eq_getElem?_getD]
          rw [List.getElem?_set_self hi]
          rfl
        rw [hget, splice_at _ _ _ _ (by rw [hrow]; exact hj)]
        by_cases ha : j < j0
        · rw [if_pos (by omega), if_pos ha]
          exact ⟨v, h2, by simpa [Cells.get] using h3, h4⟩
        · by_cases hbb : j < j0 + ps.length
          · have e1 : us[j - j0]? = some us[j - j0] := List.getElem?_eq_getElem (by omega)
            have e2 : ps[j - j0]? = some ps[j - j0] := List.getElem?_eq_getElem (by omega)
            rw [if_neg (by omega), if_pos (by omega), if_neg ha, if_pos hbb, show i * w + j - (i * w + j0) = j - j0 by omega]
            refine ⟨_, e1, ?_, h1 _ (List.getElem_mem _)⟩
            rw [e2]
            exact hl.2 _ _ _ e2 e1
          · rw [if_neg (by omega), if_neg (by omega), if_neg ha, if_neg hbb]
            exact ⟨v, h2, by simpa [Cells.get] using h3, h4⟩
      · have hget : (Cells.rows w (rs.set i0 ((rs.getD i0 []).take j0 ++ ps ++ (rs.getD i0 []).drop (j0 + ps.length)))).get i j = (Cells.rows w rs).get i j := by
          simp only [Cells.get, List.getD_eq_getElem?_getD]
          rw [List.getElem?_set_ne (fun e => he e.symm)]
        rw [hget]
        refine ⟨v, ?_, h3, h4⟩
        rcases Nat.lt_or_gt_of_ne he with hlt | hlt
        · have := idx_lt hlt hj'
          rw [if_pos (by omega)]
          exact h2
        · have := idx_lt hlt (show j0 < w + 1 by omega)
          have h6 : (i0 + 1) * w ≤ i * w := Nat.mul_le_mul_right _ hlt
          rw [Nat.add_mul] at h6
          rw [if_neg (by omega), if_neg (by omega)]
          exact h2
end Go.Pv
