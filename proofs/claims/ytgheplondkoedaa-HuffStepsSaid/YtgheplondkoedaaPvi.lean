import Derived.Test.YtgheplondkoedaaPvh
namespace Go.Pv
set_option linter.unusedVariables false
set_option linter.unusedSimpArgs false
open Go Go.RowKit
variable {P : Program} {T : Ty} {o : Oper} {a : Act} {c : Cx} {B n : Nat} {tm : Nat → PV} {K : PV → Eff → Prop}

theorem grown_setRow (w : World) (g : Nat) (cs : Array Value) : w.grownBy (w.setRow g cs) (some g) := by
  refine ⟨rfl, rfl, rfl, by simp [World.setRow], fun k _ hk => setRow_other w g k cs (fun e => hk (by rw [e]))⟩
theorem eff_other : ∀ (e : Eff) (H : Nat → Option Blk) (id : Nat), (∀ p ∈ e, p.1 ≠ id) → e.on H id = H id
  | [], _, _, _ => rfl
  | (i, b) :: r, H, id, h => by
    show Eff.on r (put H i b) id = H id
    rw [eff_other r _ id (fun p hp => h p (List.mem_cons_of_mem _ hp)), put_ne _ _ (h (i, b) (by simp))]

/-- Some cells of a block of the call's own are written. -/
theorem upd_cells (hok : HeapOk c B) {id : Nat} {b : Blk} (hb : c.H id = some b) {g : Nat} (hg : blkOf (c.loc id) = some g) {i j : Nat} {ps : List PV} {us : List Value} {K : Cells → Prop} (hst : stC b.cs i j ps K)
    (hl : RepL c (!b.box) ps us) (h1 : ∀ u ∈ us, u.oneCell' = true) :
    ∃ cs' w' c', K cs' ∧ (storeCells ⟨g, i * b.cs.w + j, none⟩ us).run P c.w = .ok () w' ∧ c'.w = w' ∧ Post c c' B [(id, some { b with cs := cs' })] := by
  have hbk := (hok.ok id b hb).2
  have hne : ∀ L q, b.cs ≠ .lp L q := fun L q e => by rw [e] at hst; exact hst.elim
  unfold BlkOk at hbk
  rcases Bool.eq_false_or_eq_true b.box with hbox | hbox
  · rw [hbox] at hbk hl
    obtain ⟨g', vs, T', hV, hB, hh, hr⟩ := hbk
    have hgg : g' = g := by rw [hV] at hg; simpa [blkOf] using hg
    subst hgg
    obtain ⟨cs', hK, hnl, hlen, hw, hfit, hr'⟩ := reps_set hr hst hl h1
    have hrun := run_storeCells_at P g' (i * b.cs.w + j) T' us 0 (List.toArray vs) c.w (hh.row hne) (by simpa using hfit) h1
    simp only [Nat.add_zero, List.size_toArray] at hrun
    obtain ⟨c', hcw, _, hpost⟩ := post_upd (w' := c.w.setRow g' (vs.take (i * b.cs.w + j) ++ us ++ vs.drop (i * b.cs.w + j + us.length)).toArray) (V' := c.loc id) (blk' := { b with cs := cs' }) hok hb (by rw [hg]; exact grown_setRow _ _ _) (by rw [hlen]; exact Nat.le_refl _) hw rfl (fun _ => rfl) (fun g h => .inl h)
      (fun c' hle hcw => by
        unfold BlkOk
        rw [if_pos hbox]
        refine ⟨g', _, T', hV, hB, Hb.mk ?_ hnl, hr'.mono hle⟩
        rw [hcw]
        exact setRow_heap c.w g' _ _ T' (0, 0) (hh.row hne))
    exact ⟨cs', _, c', hK, hrun, hcw, hpost⟩
  · rw [hbox] at hbk hl
    obtain ⟨vs, ho, hr⟩ := hbk
    obtain ⟨cs', hK, hnl, hlen, hw, hfit, hr'⟩ := reps_set hr hst hl h1
    rcases ho.2 with ⟨hV, _⟩ | ⟨g', cap, cur, hV, hB, hh, hnc, hcm, hcs, htake⟩
    · rw [hV] at hg; cases hg
    · have hgg : g' = g := by rw [hV] at hg; simpa [blkOf] using hg
      subst hgg
      have hcl : b.cs.len * b.cs.w ≤ cur.size := by rw [hcs]; exact Nat.mul_le_mul_right _ hnc
      have hvl := hr.1
      have hrun := run_storeCells_at P g' (i * b.cs.w + j) b.e us 0 cur c.w hh (by omega) h1
      simp only [Nat.add_zero] at hrun
      obtain ⟨c', hcw, _, hpost⟩ := post_upd (w' := c.w.setRow g' (cur.toList.take (i * b.cs.w + j) ++ us ++ cur.toList.drop (i * b.cs.w + j + us.length)).toArray) (V' := c.loc id) (blk' := { b with cs := cs' }) hok hb (by rw [hg]; exact grown_setRow _ _ _) (by rw [hlen]; exact Nat.le_refl _) hw rfl (fun _ => rfl) (fun g h => .inl h)
        (fun c' hle hcw => by
          unfold BlkOk
          rw [if_neg (by simp [hbox])]
          refine ⟨vs.take (i * b.cs.w + j) ++ us ++ vs.drop (i * b.cs.w + j + us.length), ⟨?_, .inr ⟨g', cap, (cur.toList.take (i * b.cs.w + j) ++ us ++ cur.toList.drop (i * b.cs.w + j + us.length)).toArray, ?_, hB, ?_, ?_, hcm, ?_, ?_⟩⟩, hr'.mono hle⟩
          · rw [hr'.1]
          · rw [hV, hlen]
          · rw [hcw]
            exact setRow_heap c.w g' _ _ b.e (0, 0) hh
          · rw [hlen]; exact hnc
          · simp only [List.size_toArray, List.length_append, List.length_take, List.length_drop, Array.length_toList, hw]
            omega
          · rw [← htake]
            simp only [hlen, hw]
            apply List.ext_getElem?
            intro k
            have hb1 : i * b.cs.w + j + us.length ≤ cur.toList.length := by simp; omega
            have hb2 : i * b.cs.w + j + us.length ≤ (cur.toList.take (b.cs.len * b.cs.w)).length := by rw [htake]; exact hfit
            rw [splice_at _ _ _ _ hb2]
            by_cases hk : k < b.cs.len * b.cs.w
            · rw [List.getElem?_take_of_lt hk, splice_at _ _ _ _ hb1, List.getElem?_take_of_lt hk]
            · rw [List.getElem?_eq_none (by simp; omega)]
              rw [if_neg (by omega), if_neg (by omega), List.getElem?_eq_none (by simp; omega)])
      exact ⟨cs', _, c', hK, hrun, hcw, hpost⟩

theorem does_store (hT : TyOk P T) (hok : HeapOk c B) {t : TypeId} {x y : Operand} (hop : o.op = .store t x y) {ti : TI} (ht : T t = some ti) {id i j tot : Nat} (hx : Rep c false (.ptr id i j tot) (a.eval x)) {q : PV} (hy : Rep c false q (a.eval y)) {b : Blk} (hb : c.H id = some b) (hl : b.cs.len = tot)
    {vs : List PV} (hc : cellsOf q = some vs) (hsz : vs.length = ti.sz) (hone : vs.all PV.one = true)
    (h1 : b.box = true → stC b.cs i j vs fun cs' => K .any [(id, some { b with cs := cs' })])
    (h2 : b.box = false → mvL c.H vs fun vs' e => (∀ p ∈ e, p.1 ≠ id) ∧ stC b.cs i j vs' fun cs' => K .any (e ++ [(id, some { b with cs := cs' })])) : Does P o a c B K := fun next Q hnext => by
  have hcl := cells_rep hc hy
  have hu : ∀ u ∈ (a.eval y).cells.toList, u.oneCell' = true := fun u hu => by
    obtain ⟨k, hk⟩ := List.getElem?_of_mem hu
    have hlt : k < vs.length := by
      have := hcl.1
      rcases Nat.lt_or_ge k vs.length with h | h
      · exact h
      · rw [List.getElem?_eq_none (by omega)] at hk; cases hk
    exact one_rep (List.all_eq_true.1 hone _ (List.getElem_mem hlt)) (hcl.2 k _ u (List.getElem?_eq_getElem hlt) hk)
  obtain ⟨g, hg, hv, _⟩ := ptr_own hok hx hb hl
  have hsize : (a.eval y).cells.size = ti.sz := by have := hcl.1; simp at this; omega
  have hex : ∀ w' : World, (storeCells ⟨g, i * b.cs.w + j, none⟩ (a.eval y).cells.toList).run P c.w = .ok () w' → (execOp a.eval o).run P c.w = .ok .skip w' := fun w' hr => by
    simp only [execOp, hop, hv, Instr.storeAt, Instr.sureAddr, storeVar, Sem.run_bind, Sem.run_pure, Result.andThen_ok, sizeOf_run hT ht, hsize, ne_eq, not_true_eq_false, if_false, hr]
  cases hbox : b.box with
  | true =>
    obtain ⟨cs', w', c', hK, hrun, hcw, hpost⟩ := upd_cells (P := P) hok hb hg (h1 hbox) (by rw [hbox]; exact hcl) hu
    unfold Oper.wp
    rw [hex w' hrun, ← hcw]
    exact hnext _ _ undef c' hK (.any ..) hpost
  | false =>
    obtain ⟨vs', e, c1, ⟨hne, hst⟩, hl1, hw1, hp1, _⟩ := mvL_ok vs _ c _ hok hcl (h2 hbox)
    have hb1 : c1.H id = some b := by rw [hp1.H, eff_other e _ id hne]; exact hb
    have hg1 : blkOf (c1.loc id) = some g := by
      obtain ⟨b0, h3, h4, h5, h6, h7⟩ := hp1.le.ids id b (hok.ok id b hb).1 hb1
      rw [hb] at h3
      cases h3
      rw [h7 rfl]
      exact hg
    obtain ⟨cs', w', c', hK, hrun, hcw, hpost⟩ := upd_cells (P := P) hp1.heap hb1 hg1 hst (by rw [hbox]; exact hl1) hu
    rw [hw1] at hrun
    unfold Oper.wp
    rw [hex w' hrun, ← hcw]
    exact hnext _ _ undef c' hK (.any ..) (hp1.trans hpost)
end Go.Pv
