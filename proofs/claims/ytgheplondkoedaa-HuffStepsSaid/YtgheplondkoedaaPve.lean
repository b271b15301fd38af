import Derived.Test.YtgheplondkoedaaPvd
namespace Go.Pv
set_option linter.unusedVariables false
set_option linter.unusedSimpArgs false
open Go Go.RowKit
variable {P : Program} {T : Ty} {o : Oper} {a : Act} {c : Cx} {B n : Nat} {tm : Nat → PV} {K : PV → Eff → Prop}

theorem blkOf_own {v : Value} {g : Nat} (h : v.ownBlock = some g) : blkOf v = some g := by
  cases v with
  | slice a _ _ => cases a <;> simp_all [Value.ownBlock, blkOf]
  | _ => simp_all [Value.ownBlock]
theorem Reps.at_ {q : Bool} {cs : Cells} {vs : List Value} {g : Nat} {w : World} (h : Reps c q cs vs) (hc : ∀ j u, vs[j]? = some u → c.w.cell? ⟨g, j, none⟩ = some u) : At c q cs g 0 := fun i j hi hj => by
  obtain ⟨v, hv, hr, h1⟩ := h.2 i j hi hj
  exact ⟨v, by rw [Nat.zero_add]; exact hc _ _ hv, hr, h1⟩
theorem row_cells {e size n : Nat} {V : Value} {xs : List Value} {g : Nat} (h : c.w.ownsRow B e size V n xs) (hg : blkOf V = some g) : ∀ j u, xs[j]? = some u → c.w.cell? ⟨g, j, none⟩ = some u := by
  rcases h.2 with ⟨rfl, _⟩ | ⟨g', cap, cur, rfl, hB, hh, hnc, hcm, hcs, htake⟩
  · simp [blkOf] at hg
  · simp [blkOf] at hg
    subst hg
    intro j u hu
    have := h.cells (g := g') rfl j u hu
    rwa [Addr.add_lit, Nat.zero_add] at this
theorem at_own (hok : HeapOk c B) {id : Nat} {blk : Blk} (hH : c.H id = some blk) {g : Nat} (hg : blkOf (c.loc id) = some g) : At c false blk.cs g 0 := by
  have h := (hok.ok id blk hH).2
  unfold BlkOk at h
  split at h
  · obtain ⟨g', vs, T, hV, hB, hh, hr⟩ := h
    rw [hV] at hg
    simp [blkOf] at hg
    subst hg
    by_cases hw : 0 < blk.cs.w
    · refine hr.at_ (w := c.w) fun j u hu => ?_
      rw [cell_of_row c.w g' j _ T (0, 0) (hh.cells hw)]
      simpa using hu
    · exact fun i j hi hj => by omega
  · obtain ⟨vs, ho, hr⟩ := h
    exact fun i j hi hj => by
      obtain ⟨v, hv, hp, h1⟩ := hr.at_ (w := c.w) (row_cells ho hg) i j hi hj
      exact ⟨v, hv, hp.loose, h1⟩

/-- One block has turned (a store, an append), or moved. -/
theorem post_upd (hok : HeapOk c B) {id : Nat} {blk blk' : Blk} {V' : Value} {w' : World} (hH : c.H id = some blk) (hg : c.w.grownBy w' (blkOf (c.loc id)))
    (hlen : blk.cs.len ≤ blk'.cs.len) (hw : blk'.cs.w = blk.cs.w) (hbox : blk'.box = blk.box) (hV : blk'.cs.len = blk.cs.len → V' = c.loc id)
    (hnew : ∀ g, blkOf V' = some g → blkOf (c.loc id) = some g ∨ c.w.heap.size ≤ g)
    (hblk : ∀ c' : Cx, c.Le c' → c'.w = w' → BlkOk c' B V' blk') :
    ∃ c' : Cx, c'.w = w' ∧ c'.loc = put c.loc id V' ∧ Post c c' B [(id, some blk')] := by
  have hstab : ∀ b, ¬ c.ow b → b < c.w.heap.size → w'.heap[b]? = c.w.heap[b]? := fun b hb hlt => hg.block b hlt (fun e => hb (hok.own id blk b hH e.symm))
  have hoth : ∀ id' bk g, id' ≠ id → c.H id' = some bk → blkOf (c.loc id') = some g → g < c.w.heap.size ∧ some g ≠ blkOf (c.loc id) := fun id' bk g hne hb hgg =>
    ⟨((hok.ok id' bk hb).2.lt hgg).2, fun e => hne (hok.inj id' id bk blk g hb hH hgg e.symm)⟩
  let c' : Cx := { w := w', loc := put c.loc id V', H := put c.H id (some blk'), A := c.A, ow := fun b => c.ow b ∨ blkOf V' = some b }
  have hle : c.Le c' := by
    refine ⟨fun b hb hlt => ⟨?_, Nat.lt_of_lt_of_le hlt hg.size, fun o => World.cell?_of_block (w := c.w) (hstab b hb hlt)⟩, fun _ h => h, fun id' bk' ha hb => ?_⟩
    · rintro (h | h)
      · exact hb h
      · rcases hnew b h with h | h
        · exact hb (hok.own id blk b hH h)
        · omega
    · show ∃ b0, c.H id' = some b0 ∧ b0.cs.len ≤ bk'.cs.len ∧ bk'.cs.w = b0.cs.w ∧ bk'.box = b0.box ∧ (bk'.cs.len = b0.cs.len → put c.loc id V' id' = c.loc id')
      have hb' : put c.H id (some blk') id' = some bk' := hb
      by_cases hi : id = id'
      · subst hi
        rw [put_same] at hb'
        cases hb'
        exact ⟨blk, hH, hlen, hw, hbox, fun e => by rw [put_same]; exact hV e⟩
      · rw [put_ne _ _ hi] at hb'
        exact ⟨bk', hb', Nat.le_refl _, rfl, rfl, fun _ => put_ne _ _ hi⟩
  refine ⟨c', rfl, rfl, hle, ⟨fun id' bk' hb => ?_, fun id' bk' g hb hgg => ?_, fun i1 i2 b1 b2 g h1 h2 g1 g2 => ?_, Nat.le_trans hok.base hg.size, fun b hb => ?_⟩, rfl, fun id' => ?_, (Below.refl B c.w).grown hg hok.base (fun k hk => ((hok.ok id blk hH).2.lt hk).1), fun _ _ h => .inl h, fun b hb => ⟨⟨Nat.lt_of_lt_of_le hb.1 hg.size, fun id' bk' hb' e => ?_⟩, hg.block b hb.1 (fun e => hb.2 id blk hH e.symm), .inl⟩⟩
  · have hb' : put c.H id (some blk') id' = some bk' := hb
    show c.A id' ∧ BlkOk c' B (put c.loc id V' id') bk'
    by_cases hi : id = id'
    · subst hi
      rw [put_same] at hb'
      cases hb'
      rw [put_same]
      exact ⟨(hok.ok id blk hH).1, hblk c' hle rfl⟩
    · rw [put_ne _ _ hi] at hb' ⊢
      obtain ⟨h1, h2⟩ := hok.ok id' bk' hb'
      refine ⟨h1, h2.mono hle fun g hgg => ?_⟩
      obtain ⟨h3, h4⟩ := hoth id' bk' g (fun e => hi e.symm) hb' hgg
      exact hg.block g h3 h4
  · have hb' : put c.H id (some blk') id' = some bk' := hb
    have hgg' : blkOf (put c.loc id V' id') = some g := hgg
    show c.ow g ∨ blkOf V' = some g
    by_cases hi : id = id'
    · subst hi
      rw [put_same] at hgg'
      exact .inr hgg'
    · rw [put_ne _ _ hi] at hb' hgg'
      exact .inl (hok.own id' bk' g hb' hgg')
  · have h1' : put c.H id (some blk') i1 = some b1 := h1
    have h2' : put c.H id (some blk') i2 = some b2 := h2
    have g1' : blkOf (put c.loc id V' i1) = some g := g1
    have g2' : blkOf (put c.loc id V' i2) = some g := g2
    by_cases hi : id = i1
    · by_cases hj : id = i2
      · exact hi.symm.trans hj
      · subst hi
        rw [put_same] at g1'
        rw [put_ne _ _ hj] at h2' g2'
        obtain ⟨h3, h4⟩ := hoth i2 b2 g (fun e => hj e.symm) h2' g2'
        rcases hnew g g1' with h | h
        · exact absurd h.symm h4
        · omega
    · by_cases hj : id = i2
      · subst hj
        rw [put_same] at g2'
        rw [put_ne _ _ hi] at h1' g1'
        obtain ⟨h3, h4⟩ := hoth i1 b1 g (fun e => hi e.symm) h1' g1'
        rcases hnew g g2' with h | h
        · exact absurd h.symm h4
        · omega
      · rw [put_ne _ _ hi] at h1' g1'
        rw [put_ne _ _ hj] at h2' g2'
        exact hok.inj i1 i2 b1 b2 g h1' h2' g1' g2'
  · rcases hb with h | h
    · exact Nat.lt_of_lt_of_le (hok.lt b h) hg.size
    · exact ((hblk c' hle rfl).lt h).2
  · show c.A id' ↔ c.A id' ∨ id' ∈ [id]
    refine ⟨fun h => .inl h, fun h => h.elim (fun h => h) fun h => ?_⟩
    simp at h
    subst h
    exact (hok.ok id' blk hH).1
  · have hb1 : put c.H id (some blk') id' = some bk' := hb'
    have e1 : blkOf (put c.loc id V' id') = some b := e
    by_cases hi : id = id'
    · subst hi
      rw [put_same] at e1
      rcases hnew b e1 with h | h
      · exact hb.2 id blk hH h
      · have := hb.1
        omega
    · rw [put_ne _ _ hi] at hb1 e1
      exact hb.2 id' bk' hb1 e1

/-- A new block. -/
theorem post_new (hok : HeapOk c B) {id : Nat} {blk' : Blk} {V' : Value} {w' : World} (hH : ¬ c.A id) (hg : c.w.grownBy w' none)
    (hnew : ∀ g, blkOf V' = some g → c.w.heap.size ≤ g) (hblk : ∀ c' : Cx, c.Le c' → c'.w = w' → BlkOk c' B V' blk') :
    ∃ c' : Cx, c'.w = w' ∧ c'.loc = put c.loc id V' ∧ Post c c' B [(id, some blk')] := by
  have hstab : ∀ b, b < c.w.heap.size → w'.heap[b]? = c.w.heap[b]? := fun b hlt => hg.block b hlt (fun e => by cases e)
  have hlt : ∀ id' bk g, c.H id' = some bk → blkOf (c.loc id') = some g → g < c.w.heap.size := fun id' bk g hb hgg => ((hok.ok id' bk hb).2.lt hgg).2
  have hne : ∀ id', c.A id' → id ≠ id' := fun id' h e => hH (e ▸ h)
  let c' : Cx := { w := w', loc := put c.loc id V', H := put c.H id (some blk'), A := fun i => c.A i ∨ i = id, ow := fun b => c.ow b ∨ blkOf V' = some b }
  have hle : c.Le c' := by
    refine ⟨fun b hb hlt' => ⟨?_, Nat.lt_of_lt_of_le hlt' hg.size, fun o => World.cell?_of_block (w := c.w) (hstab b hlt')⟩, fun _ h => .inl h, fun id' bk' ha hb => ?_⟩
    · rintro (h | h)
      · exact hb h
      · have := hnew b h
        omega
    · have hb' : put c.H id (some blk') id' = some bk' := hb
      have hi := hne id' ha
      rw [put_ne _ _ hi] at hb'
      exact ⟨bk', hb', Nat.le_refl _, rfl, rfl, fun _ => put_ne _ _ hi⟩
  refine ⟨c', rfl, rfl, hle, ⟨fun id' bk' hb => ?_, fun id' bk' g hb hgg => ?_, fun i1 i2 b1 b2 g h1 h2 g1 g2 => ?_, Nat.le_trans hok.base hg.size, fun b hb => ?_⟩, rfl, fun id' => ?_, (Below.refl B c.w).grown hg hok.base (fun k hk => by cases hk), fun _ _ h => .inl h, fun b hb => ⟨⟨Nat.lt_of_lt_of_le hb.1 hg.size, fun id' bk' hb' e => ?_⟩, hstab b hb.1, .inl⟩⟩
  · have hb' : put c.H id (some blk') id' = some bk' := hb
    show (c.A id' ∨ id' = id) ∧ BlkOk c' B (put c.loc id V' id') bk'
    by_cases hi : id = id'
    · subst hi
      rw [put_same] at hb'
      cases hb'
      rw [put_same]
      exact ⟨.inr rfl, hblk c' hle rfl⟩
    · rw [put_ne _ _ hi] at hb' ⊢
      obtain ⟨h1, h2⟩ := hok.ok id' bk' hb'
      exact ⟨.inl h1, h2.mono hle fun g hgg => hstab g (hlt id' bk' g hb' hgg)⟩
  · have hb' : put c.H id (some blk') id' = some bk' := hb
    have hgg' : blkOf (put c.loc id V' id') = some g := hgg
    show c.ow g ∨ blkOf V' = some g
    by_cases hi : id = id'
    · subst hi
      rw [put_same] at hgg'
      exact .inr hgg'
    · rw [put_ne _ _ hi] at hb' hgg'
      exact .inl (hok.own id' bk' g hb' hgg')
  · have h1' : put c.H id (some blk') i1 = some b1 := h1
    have h2' : put c.H id (some blk') i2 = some b2 := h2
    have g1' : blkOf (put c.loc id V' i1) = some g := g1
    have g2' : blkOf (put c.loc id V' i2) = some g := g2
    by_cases hi : id = i1
    · by_cases hj : id = i2
      · exact hi.symm.trans hj
      · subst hi
        rw [put_same] at g1'
        rw [put_ne _ _ hj] at h2' g2'
        have := hlt i2 b2 g h2' g2'
        have := hnew g g1'
        omega
    · by_cases hj : id = i2
      · subst hj
        rw [put_same] at g2'
        rw [put_ne _ _ hi] at h1' g1'
        have := hlt i1 b1 g h1' g1'
        have := hnew g g2'
        omega
      · rw [put_ne _ _ hi] at h1' g1'
        rw [put_ne _ _ hj] at h2' g2'
        exact hok.inj i1 i2 b1 b2 g h1' h2' g1' g2'
  · rcases hb with h | h
    · exact Nat.lt_of_lt_of_le (hok.lt b h) hg.size
    · exact ((hblk c' hle rfl).lt h).2
  · show c.A id' ∨ id' = id ↔ c.A id' ∨ id' ∈ [id]
    simp
  · have hb1 : put c.H id (some blk') id' = some bk' := hb'
    have e1 : blkOf (put c.loc id V' id') = some b := e
    by_cases hi : id = id'
    · subst hi
      rw [put_same] at e1
      have := hnew b e1
      have := hb.1
      omega
    · rw [put_ne _ _ hi] at hb1 e1
      exact hb.2 id' bk' hb1 e1

/-- A world with new blocks that are nobody's. -/
theorem post_world (hok : HeapOk c B) {w' : World} (hg : c.w.grownBy w' none) : ∃ c' : Cx, c'.w = w' ∧ c'.loc = c.loc ∧ c'.ow = c.ow ∧ Post c c' B [] := by
  have hstab : ∀ b, b < c.w.heap.size → w'.heap[b]? = c.w.heap[b]? := fun b hlt => hg.block b hlt (fun e => by cases e)
  let c' : Cx := { c with w := w' }
  have hle : c.Le c' := ⟨fun b hb hlt => ⟨hb, Nat.lt_of_lt_of_le hlt hg.size, fun o => World.cell?_of_block (w := c.w) (hstab b hlt)⟩, fun _ h => h, fun id blk _ h => ⟨blk, h, Nat.le_refl _, rfl, rfl, fun _ => rfl⟩⟩
  refine ⟨c', rfl, rfl, rfl, hle, ⟨fun id blk hb => ?_, hok.own, hok.inj, Nat.le_trans hok.base hg.size, fun b hb => Nat.lt_of_lt_of_le (hok.lt b hb) hg.size⟩, rfl, fun id => by simp; exact Iff.rfl, (Below.refl B c.w).grown hg hok.base (fun k hk => by cases hk), fun _ _ h => h, fun b hb => ⟨⟨Nat.lt_of_lt_of_le hb.1 hg.size, hb.2⟩, hstab b hb.1, fun h => h⟩⟩
  obtain ⟨h1, h2⟩ := hok.ok id blk hb
  exact ⟨h1, h2.mono hle fun g hgg => hstab g (h2.lt hgg).2⟩

theorem Post.trans {c1 c2 : Cx} {e1 e2 : Eff} (h1 : Post c c1 B e1) (h2 : Post c1 c2 B e2) : Post c c2 B (e1 ++ e2) := by
  refine ⟨h1.le.trans h2.le, h2.heap, ?_, fun id => ?_, h1.below.trans h2.below, fun b hb h => h2.ow b hb (h1.ow b hb h), fun b hb => let ⟨k1, k2, k3⟩ := h1.only b hb; let ⟨l1, l2, l3⟩ := h2.only b k1; ⟨l1, l2.trans k2, fun h => l3 (k3 h)⟩⟩
  · rw [h2.H, h1.H]
    have : ∀ (e : Eff) (H : Nat → Option Blk), (e ++ e2).on H = e2.on (e.on H) := by
      intro e
      induction e with
      | nil => intro H; rfl
      | cons p r ih => intro H; obtain ⟨i, b⟩ := p; exact ih _
    rw [this]
  · rw [h2.A, h1.A, List.map_append, List.mem_append, or_assoc]
end Go.Pv
