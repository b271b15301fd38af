import Derived.Test.YtgheplondkoedaaPvi
namespace Go.Pv
set_option linter.unusedVariables false
set_option linter.unusedSimpArgs false
open Go Go.RowKit
variable {P : Program} {T : Ty} {o : Oper} {a : Act} {c : Cx} {B n : Nat} {tm : Nat → PV} {K : PV → Eff → Prop}

/-- A slice that may be read: what its value is. -/
theorem rdS_ok (hok : HeapOk c B) {p : PV} {v : Value} {K : Cells → Prop} (hp : Rep c false p v) (h : rdS c.H p K) :
    ∃ cs, K cs ∧ ((cs.len = 0 ∧ ∃ A cp, v = .slice A 0 cp) ∨ (0 < cs.len ∧ ∃ b off cp, v = .slice (some ⟨b, off, none⟩) cs.len cp ∧ cs.len ≤ cp ∧ At c true cs b off ∧ b < c.w.heap.size)) := by
  cases p <;> try (exact h.elim)
  case ro cs =>
    refine ⟨cs, h, ?_⟩
    rcases ro_at hp with ⟨h0, h1⟩ | ⟨b, off, cp, hv, hcp, hc, hb, hlt⟩
    · exact .inl ⟨h0, h1⟩
    · by_cases h0 : cs.len = 0
      · exact .inl ⟨h0, _, cp, by rw [hv, h0]⟩
      · exact .inr ⟨by omega, b, off, cp, hv, hcp, hc, hlt⟩
  case nil cs =>
    refine ⟨cs, h, .inl ?_⟩
    cases hp with
    | nil _ _ A h0 => exact ⟨h0, A, 0, rfl⟩
  case sl id off m tot =>
    unfold rdS at h
    dsimp only at h
    split at h
    · rename_i b hb
      obtain ⟨hl, h⟩ := h
      refine ⟨_, h, ?_⟩
      by_cases h0 : m = 0
      · subst h0
        cases hp with
        | sl _ _ _ _ _ ha hs hk =>
          obtain ⟨A, cp, hv, _⟩ := hs
          have : (b.cs.sub off 0).len = 0 := by cases b.cs <;> simp [Cells.sub, Cells.len]
          exact .inl ⟨this, A, cp, hv⟩
      · obtain ⟨g, cp, hg, hv, _, hle, hcp, hbox⟩ := sl_own hok hp hb hl (by omega)
        have hbk := (hok.ok id b hb).2
        unfold BlkOk at hbk
        rw [hbox] at hbk
        obtain ⟨vs, ho, hrr⟩ := hbk
        have h1 : At c true b.cs g 0 := hrr.at_ (w := c.w) (row_cells ho hg)
        have hlen := sub_len b.cs off m (by omega)
        refine .inr ⟨by omega, g, off * b.cs.w, cp, by rw [hv, hlen], by omega, fun i j hi hj => ?_, ((hok.ok id b hb).2.lt hg).2⟩
        rw [sub_w] at hj
        obtain ⟨v, h2, h3, h4⟩ := h1 (off + i) j (by omega) hj
        refine ⟨v, ?_, by rw [sub_get b.cs off m i j (by omega)]; exact h3, h4⟩
        rw [sub_w, ← Nat.add_assoc, ← Nat.add_mul]
        rw [Nat.zero_add] at h2
        exact h2
    · exact h.elim

/-- The values of cells, as a list. -/
theorem at_list {q : Bool} {cs : Cells} {b off : Nat} (h : At c q cs b off) : ∃ us : List Value, us.length = cs.len * cs.w ∧ (∀ j u, us[j]? = some u → c.w.cell? ((⟨b, off, none⟩ : Addr).add j) = some u) ∧ (∀ u ∈ us, u.oneCell' = true) ∧ Reps c q cs us := by
  have hex : ∀ k, ∃ u, k < cs.len * cs.w → c.w.cell? ⟨b, off + k, none⟩ = some u ∧ Rep c q (cs.get (k / cs.w) (k % cs.w)) u ∧ u.oneCell' = true := fun k => by
    by_cases hk : k < cs.len * cs.w
    · have hw : 0 < cs.w := by
        rcases Nat.eq_zero_or_pos cs.w with h | h
        · rw [h] at hk; omega
        · exact h
      obtain ⟨u, h1⟩ := h (k / cs.w) (k % cs.w) (Nat.div_lt_of_lt_mul (by rw [Nat.mul_comm]; exact hk)) (Nat.mod_lt _ hw)
      rw [Nat.mul_comm, Nat.div_add_mod] at h1
      exact ⟨u, fun _ => h1⟩
    · exact ⟨undef, fun h => absurd h hk⟩
  let f : Nat → Value := fun k => Classical.choose (hex k)
  have hf : ∀ k, k < cs.len * cs.w → c.w.cell? ⟨b, off + k, none⟩ = some (f k) ∧ Rep c q (cs.get (k / cs.w) (k % cs.w)) (f k) ∧ (f k).oneCell' = true := fun k => Classical.choose_spec (hex k)
  refine ⟨(List.range (cs.len * cs.w)).map f, by simp, fun j u hu => ?_, fun u hu => ?_, by simp, fun i j hi hj => ?_⟩
  · have hj : j < cs.len * cs.w := by
      rcases Nat.lt_or_ge j (cs.len * cs.w) with h | h
      · exact h
      · rw [List.getElem?_eq_none (by simpa using h)] at hu; cases hu
    simp [hj] at hu
    subst hu
    rw [Addr.add_lit]
    exact (hf j hj).1
  · obtain ⟨k, hk, rfl⟩ := List.mem_map.1 hu
    exact (hf k (List.mem_range.1 hk)).2.2
  · have hk : i * cs.w + j < cs.len * cs.w := by have := idx_lt hi hj; omega
    refine ⟨f (i * cs.w + j), by simp [hk], ?_, (hf _ hk).2.2⟩
    have := (hf _ hk).2.1
    have e1 : (i * cs.w + j) / cs.w = i := by rw [Nat.mul_comm i, Nat.mul_add_div (by omega), Nat.div_eq_of_lt hj, Nat.add_zero]
    have e2 : (i * cs.w + j) % cs.w = j := by rw [Nat.mul_comm i, Nat.mul_add_mod, Nat.mod_eq_of_lt hj]
    rwa [e1, e2] at this

theorem reps_app {q : Bool} {cs ds : Cells} {us vs : List Value} {K : Cells → Prop} (h1 : Reps c q cs us) (h2 : Reps c q ds vs) (h : apC cs ds K) : ∃ es, K es ∧ es.len = cs.len + ds.len ∧ es.w = cs.w ∧ ds.w = cs.w ∧ Reps c q es (us ++ vs) ∧ (ds.len = 0 → es = cs) := by
  have key : ∀ es : Cells, es.len = cs.len + ds.len → es.w = cs.w → ds.w = cs.w → (∀ i j, i < cs.len → es.get i j = cs.get i j) → (∀ i j, i < ds.len → es.get (cs.len + i) j = ds.get i j) → Reps c q es (us ++ vs) := fun es e1 e2 e3 e4 e5 => by
    refine ⟨by rw [List.length_append, h1.1, h2.1, e1, e2, e3, Nat.add_mul], fun i j hi hj => ?_⟩
    rw [e2] at hj ⊢
    rw [e1] at hi
    by_cases hc : i < cs.len
    · obtain ⟨v, h3, h4, h5⟩ := h1.2 i j hc hj
      refine ⟨v, ?_, by rw [e4 i j hc]; exact h4, h5⟩
      rw [List.getElem?_append_left (by rw [h1.1]; have := idx_lt hc hj; omega)]
      exact h3
    · obtain ⟨k, rfl⟩ : ∃ k, i = cs.len + k := ⟨i - cs.len, by omega⟩
      obtain ⟨v, h3, h4, h5⟩ := h2.2 k j (by omega) (by rw [e3]; exact hj)
      refine ⟨v, ?_, by rw [e5 k j (by omega)]; exact h4, h5⟩
      rw [List.getElem?_append_right (by rw [h1.1, Nat.add_mul]; omega), h1.1, Nat.add_mul]
      rw [e3] at h3
      rw [show cs.len * cs.w + k * cs.w + j - cs.len * cs.w = k * cs.w + j by omega]
      exact h3
  unfold apC at h
  split at h
  · rename_i k xs k' ys
    obtain ⟨rfl, hK⟩ := h
    refine ⟨_, hK, by simp [Cells.len], rfl, rfl, key _ (by simp [Cells.len]) rfl rfl (fun i j hi => ?_) (fun i j hi => ?_), fun h0 => by simp [Cells.len] at h0; simp [h0]⟩
    · simp only [Cells.len, Cells.get, List.getD_eq_getElem?_getD] at *
      rw [List.getElem?_append_left hi]
    · simp only [Cells.len, Cells.get, List.getD_eq_getElem?_getD] at *
      rw [List.getElem?_append_right (by omega), Nat.add_sub_cancel_left]
  · rename_i w rs w' rs'
    obtain ⟨rfl, hK⟩ := h
    refine ⟨_, hK, by simp [Cells.len], rfl, rfl, key _ (by simp [Cells.len]) rfl rfl (fun i j hi => ?_) (fun i j hi => ?_), fun h0 => by simp [Cells.len] at h0; simp [h0]⟩
    · simp only [Cells.len, Cells.get, List.getD_eq_getElem?_getD] at *
      rw [List.getElem?_append_left hi]
    · simp only [Cells.len, Cells.get, List.getD_eq_getElem?_getD] at *
      rw [List.getElem?_append_right (by omega), Nat.add_sub_cancel_left]
  · exact h.elim

/-- Nothing is appended. -/
theorem run_append_zero (hT : TyOk P T) {t e : TypeId} {tt te : TI} (ht : T t = some tt) (hk : tt.k = .slice e) (hte : T e = some te) (ty : TypeId) (A : Option Addr) (m cp : Nat) (hm : m ≤ cp) (A' : Option Addr) (cp' : Nat) (w : World) :
    (Builtin.append_ #[t, t] ty #[.slice A m cp, .slice A' 0 cp']).run P w = .ok (.slice A m cp) w := by
  have hu := (hT.slice t tt e ht hk).1
  have hf : ∀ s, (Builtin.firstCells s 0 (.slice A' 0 cp')).run P w = .ok #[] w := fun s => by
    cases A' with
    | none => rfl
    | some x => simp [Builtin.firstCells, loadCells, loadCellsFrom]
  simp [Builtin.append_, run_underlying hu, sizeOf_run hT hte, Builtin.lenOf, hm, hf]
  cases A with
  | none => rfl
  | some x => simp [storeCells]

theorem app_row (w : World) (hB : B ≤ w.heap.size) (e : TypeId) (i : TypeInfo) (z : Value) (hzs : z.cells.size = i.size) (xs news : List Value) (n m old : Nat) (hx : xs.length = n * i.size) (hl : news.length = m * i.size) (h63 : n + m ≤ maxLen) :
    (w.drew.alloc (.cells (xs.toArray ++ news.toArray ++ Builtin.zeroCells z.cells (grownCap w (n + m) old e - (n + m))) e)).ownsRow B e i.size (.slice (some ⟨w.heap.size, 0, none⟩) (n + m) (grownCap w (n + m) old e)) (n + m) (xs ++ news) ∧
    w.grownBy (w.drew.alloc (.cells (xs.toArray ++ news.toArray ++ Builtin.zeroCells z.cells (grownCap w (n + m) old e - (n + m))) e)) none := by
  have hlen : (xs ++ news).length = (n + m) * i.size := by rw [List.length_append, hx, hl, Nat.add_mul]
  have hge := grownCap_ge w (n + m) old e
  have hcm : grownCap w (n + m) old e ≤ maxLen := grownCap_le_maxLen w (n + m) old e h63
  refine ⟨⟨hlen, .inr ⟨w.heap.size, _, _, rfl, hB, heap_alloc_new w.drew _, hge, hcm, ?_, ?_⟩⟩, ⟨rfl, rfl, rfl, by simp, fun k hk _ => heap_alloc_old w.drew _ hk⟩⟩
  · simp only [Array.size_append, List.size_toArray, size_zeroCells, hzs, hx, hl, ← Nat.add_mul]
    congr 1
    omega
  · simp only [Array.toList_append, List.append_assoc]
    rw [← List.append_assoc, ← hlen]
    exact List.take_left

theorem app_run0 (hT : TyOk P T) {t e : TypeId} {tt te : TI} (ht : T t = some tt) (hk : tt.k = .slice e) (hte : T e = some te) (hsz : 0 < te.sz) (ty : TypeId) (w : World) (hB : B ≤ w.heap.size) (A : Option Addr)
    (ad : Addr) (m cp : Nat) (news : List Value) (hl : news.length = m * te.sz) (hnews : ∀ j u, news[j]? = some u → w.cell? (ad.add j) = some u) (h1 : ∀ u ∈ news, u.oneCell' = true)
    (hm : 0 < m) (hb1 : m * te.bytes ≤ 140737488355328) (hb2 : m ≤ 140737488355328) :
    ∃ V' w', (Builtin.append_ #[t, t] ty #[.slice A 0 0, .slice (some ad) m cp]).run P w = .ok V' w' ∧ w'.ownsRow B e te.sz V' m news ∧ w.grownBy w' none ∧ ∀ g, blkOf V' = some g → w.heap.size ≤ g := by
  have hu := (hT.slice t tt e ht hk).1
  obtain ⟨i, hi, hsize, hby, z, hz, _, hzs⟩ := hT.info e te hte
  rw [← hsize] at hl hsz hzs ⊢
  rw [← hby] at hb1
  have h63 : 0 + m ≤ maxLen := by unfold maxLen; omega
  obtain ⟨h2, h3⟩ := app_row (B := B) w hB e i z hzs [] news 0 m 0 (by simp) hl h63
  cases A with
  | none =>
    have hr := run_append_nil (P := P) w t ty e i z hu hi hz ad m cp news hl hnews hm (by omega) (by omega)
    simp only [Nat.zero_add, List.nil_append, Array.empty_append] at h2 h3 ⊢
    exact ⟨_, _, hr, h2, h3, fun g hg => by simp [blkOf] at hg; omega⟩
  | some x =>
    have hr := run_append_grow (P := P) w t ty e i z hu hi hz x 0 0 [] (by simp) (by simp) ad m cp news hl hnews (by omega) (by omega) (by rw [Nat.zero_add, nextslicecap_zero hm]; omega)
    simp only [Nat.zero_add, List.nil_append] at h2 h3 hr ⊢
    exact ⟨_, _, hr, h2, h3, fun g hg => by simp [blkOf] at hg; omega⟩

theorem app_run1 (hT : TyOk P T) {t e : TypeId} {tt te : TI} (ht : T t = some tt) (hk : tt.k = .slice e) (hte : T e = some te) (hsz : 0 < te.sz) (ty : TypeId) (w : World) (hB : B ≤ w.heap.size) (v : Value) (n : Nat) (xs : List Value)
    (ho : w.ownsRow B e te.sz v n xs) (hne : v ≠ .slice none 0 0) (ad : Addr) (m cp : Nat) (news : List Value) (hl : news.length = m * te.sz) (hnews : ∀ j u, news[j]? = some u → w.cell? (ad.add j) = some u) (h1 : ∀ u ∈ news, u.oneCell' = true)
    (hm : 0 < m) (hb1 : (n + m) * te.bytes ≤ 140737488355328) (hb2 : n + m ≤ 140737488355328) :
    ∃ V' w', (Builtin.append_ #[t, t] ty #[v, .slice (some ad) m cp]).run P w = .ok V' w' ∧ w'.ownsRow B e te.sz V' (n + m) (xs ++ news) ∧ w.grownBy w' (blkOf v) ∧ ∀ g, blkOf V' = some g → blkOf v = some g ∨ w.heap.size ≤ g := by
  have hu := (hT.slice t tt e ht hk).1
  obtain ⟨i, hi, hsize, hby, z, hz, _, hzs⟩ := hT.info e te hte
  rw [← hsize] at hl hsz hzs ho ⊢
  rw [← hby] at hb1
  have h63 : n + m ≤ maxLen := by unfold maxLen; omega
  rcases ho.2 with ⟨rfl, _⟩ | ⟨g, cap, cur, rfl, hbg, hg, hnc, hcm, hcs, htake⟩
  · exact absurd rfl hne
  · have hlen : (xs ++ news).length = (n + m) * i.size := by rw [List.length_append, ho.1, hl, Nat.add_mul]
    by_cases hroom : n + m ≤ cap
    · have hfit : n * i.size + news.length ≤ cur.size := by rw [hl, hcs, ← Nat.add_mul]; exact Nat.mul_le_mul_right _ hroom
      have hr := run_append_room (P := P) w t ty e i hu hi g n cap cur hg ad m cp news hl hnews h1 hroom hfit
      refine ⟨_, _, hr, ⟨hlen, .inr ⟨g, cap, _, rfl, hbg, setRow_heap w g cur _ e _ hg, hroom, hcm, ?_, ?_⟩⟩, ?_, fun g' hg' => .inl (by simpa [blkOf] using hg')⟩
      · simp only [List.size_toArray, List.length_append, List.length_take, List.length_drop, Array.length_toList]
        omega
      · rw [htake, ← hlen]
        exact List.take_left
      · exact grown_setRow _ _ _
    · have holds : ∀ j u, xs[j]? = some u → w.cell? ((⟨g, 0, none⟩ : Addr).add j) = some u := ho.cells (g := g) rfl
      have hr := run_append_grow (P := P) w t ty e i z hu hi hz ⟨g, 0, none⟩ n cap xs ho.1 holds ad m cp news hl hnews (by omega) (by omega) (growslice_fits (by omega) hb1)
      obtain ⟨h2, h3⟩ := app_row (B := B) w hB e i z hzs xs news n m cap ho.1 hl h63
      exact ⟨_, _, hr, h2, ⟨h3.os, h3.tape, h3.output, h3.size, fun k hk _ => h3.block k hk (fun e => by cases e)⟩, fun g' hg' => .inr (by simp [blkOf] at hg'; omega)⟩

theorem post_same (hok : HeapOk c B) {id : Nat} {b : Blk} (hb : c.H id = some b) : Post c c B [(id, some b)] := by
  refine ⟨.refl c, hok, ?_, fun id' => ?_, Below.refl _ _, fun _ _ h => h, fun b h => ⟨h, rfl, fun h => h⟩⟩
  · funext j
    show c.H j = put c.H id (some b) j
    rw [put_at]
    split
    · rename_i h; rw [← h]; exact hb
    · rfl
  · refine ⟨fun h => .inl h, fun h => h.elim (fun h => h) fun h => ?_⟩
    simp at h
    subst h
    exact (hok.ok id' b hb).1

theorem does_append (hT : TyOk P T) (hok : HeapOk c B) (hn : ¬ c.A n) {s x : Operand} {t e : TypeId} {tt te : TI} (fin : ∀ {V : Value} {w' : World}, (Builtin.append_ #[t, t] o.type #[a.eval s, a.eval x]).run P c.w = .ok V w' → (execOp a.eval o).run P c.w = .ok (.value V) w') (ht : T t = some tt) (hk : tt.k = .slice e) (hte : T e = some te) (hsz : 0 < te.sz)
    {ps px : PV} (hs : Rep c false ps (a.eval s)) (hx : Rep c false px (a.eval x))
    (h : apS c.H n e te ps px K) : Does P o a c B K := fun next Q hnext => by
  cases ps <;> try (exact h.elim)
  case nil cs0 =>
    obtain ⟨cs, ⟨hw, hb1, hb2, hK⟩, hx'⟩ := rdS_ok hok hx h
    have hv : ∃ A, a.eval s = .slice A 0 0 := by
      generalize a.eval s = v at hs
      cases hs
      exact ⟨_, rfl⟩
    obtain ⟨A, hv⟩ := hv
    rcases hx' with ⟨h0, A', cp', hxv⟩ | ⟨h0, b, off, cp, hxv, hcp, hat, hlt⟩
    · have hr := fin (by rw [hv, hxv]; exact run_append_zero hT ht hk hte o.type A 0 0 (Nat.le_refl 0) A' cp' c.w)
      obtain ⟨c', hcw, hloc, hpost⟩ := post_new (id := n) (V' := .slice none 0 0) (blk' := ⟨cs, false, e⟩) (w' := c.w) hok hn (World.grownBy.refl c.w none) (fun g hg => by cases hg)
        (fun c' hle hw' => by
          unfold BlkOk
          rw [if_neg (by simp)]
          refine ⟨[], ?_, by simp [h0], fun i j hi => by have hi' : i < cs.len := hi; omega⟩
          show c'.w.ownsRow B e cs.w (.slice none 0 0) cs.len []
          rw [h0]
          exact World.ownsRow_nil c'.w B e cs.w)
      unfold Oper.wp
      rw [hr, ← hcw]
      refine hnext _ _ _ c' hK ?_ hpost
      rw [h0]
      refine .sl n 0 0 0 _ ((hpost.A n).2 (.inr (by simp))) ⟨A, 0, rfl, Nat.le_refl 0⟩ fun bl hb => ?_
      rw [hpost.H] at hb
      simp [Eff.on, put_same] at hb
      subst hb
      refine ⟨rfl, Nat.zero_le _, fun _ => ⟨Nat.le_refl 0, fun _ => .inr ⟨by rw [hloc, put_same], A, rfl⟩, fun h => absurd ⟨rfl, rfl⟩ h⟩⟩
    · obtain ⟨us, hul, huc, hu1, hur⟩ := at_list hat
      obtain ⟨V', w', hrun, hown, hgr, hnew⟩ := app_run0 (B := B) hT ht hk hte hsz o.type c.w hok.base A ⟨b, off, none⟩ cs.len cp us (by rw [hul, hw]) huc hu1 h0 hb1 hb2
      rw [← hxv, ← hv] at hrun
      obtain ⟨c', hcw, hloc, hpost⟩ := post_new (id := n) (V' := V') (blk' := ⟨cs, false, e⟩) (w' := w') hok hn hgr hnew
        (fun c' hle hw' => by
          unfold BlkOk
          rw [if_neg (by simp)]
          exact ⟨us, by rw [hw']; simpa [hw] using hown, hur.mono hle⟩)
      unfold Oper.wp
      rw [fin hrun, ← hcw]
      refine hnext _ _ _ c' hK ?_ hpost
      have hshape : ∃ A cp, V' = .slice A cs.len cp ∧ cs.len ≤ cp := by
        rcases hown.2 with ⟨_, h⟩ | ⟨g, cap, cur, rfl, _, _, h, _⟩
        · omega
        · exact ⟨_, cap, rfl, h⟩
      refine .sl n 0 cs.len cs.len _ ((hpost.A n).2 (.inr (by simp))) hshape fun bl hb => ?_
      rw [hpost.H] at hb
      simp [Eff.on, put_same] at hb
      subst hb
      exact ⟨rfl, Nat.le_refl _, fun _ => ⟨by simp, fun _ => .inl (by rw [hloc, put_same]), fun h => absurd ⟨rfl, rfl⟩ h⟩⟩
  case sl id off m tot =>
    obtain ⟨rfl, rfl, h⟩ := h
    split at h
    · exact h.elim
    · rename_i b hb
      obtain ⟨hl, hbox, hbe, hbw, h⟩ := h
      obtain ⟨cs, ⟨hb1, hb2, hap⟩, hx'⟩ := rdS_ok hok hx h
      have hs' := hs
      cases hs' with
      | sl _ _ _ _ _ ha hsh hkk =>
        obtain ⟨_, _, hsl⟩ := hkk b hb
        obtain ⟨_, hwh, _⟩ := hsl hl
        have hv := hwh ⟨rfl, rfl⟩
        have hbk := (hok.ok id b hb).2
        unfold BlkOk at hbk
        rw [hbox] at hbk
        obtain ⟨vs, ho, hrr⟩ := hbk
        rcases hx' with ⟨h0, A', cp', hxv⟩ | ⟨h0, bx, off, cp, hxv, hcp, hat, hlt⟩
        · obtain ⟨es, hK, e1, e2, e3, _, hes⟩ := reps_app (q := true) (c := c) hrr (ds := cs) (vs := []) ⟨by simp [h0], fun i j hi => by omega⟩ hap
          have hes := hes h0
          obtain ⟨A, cpv, hvv, hcpv⟩ := hsh
          have hr := fin (by rw [hvv, hxv]; exact run_append_zero hT ht hk hte o.type A m cpv hcpv A' cp' c.w)
          unfold Oper.wp
          rw [hr]
          have hK' : K (.sl id 0 m m) [(id, some b)] := by
            rw [hes, h0] at hK
            exact hK
          rw [← hvv]
          exact hnext _ _ _ c hK' hs (post_same hok hb)
        · obtain ⟨us, hul, huc, hu1, hur⟩ := at_list hat
          obtain ⟨es, hK, e1, e2, e3, hres, _⟩ := reps_app hrr hur hap
          have hulen : us.length = cs.len * te.sz := by rw [hul, e3, hbw]
          have hcase : ∃ V' w', (Builtin.append_ #[t, t] o.type #[a.eval s, a.eval x]).run P c.w = .ok V' w' ∧ w'.ownsRow B e te.sz V' (m + cs.len) (vs ++ us) ∧ c.w.grownBy w' (blkOf (c.loc id)) ∧ ∀ g, blkOf V' = some g → blkOf (c.loc id) = some g ∨ c.w.heap.size ≤ g := by
            rw [hbe, hbw, hl] at ho
            rw [hxv]
            by_cases hvz : c.loc id = .slice none 0 0
            · have hm0 : m = 0 := by
                rcases ho.2 with ⟨_, h⟩ | ⟨g, cap, cur, h, _⟩
                · exact h
                · rw [hvz] at h; cases h
              have hvs : vs = [] := by
                have := ho.1
                rw [hm0, Nat.zero_mul] at this
                exact List.eq_nil_of_length_eq_zero this
              have hv0 : ∃ A, a.eval s = .slice A 0 0 := by
                rcases hv with h | ⟨_, A, h⟩
                · exact ⟨none, by rw [h, hvz]⟩
                · exact ⟨A, h⟩
              obtain ⟨A, hv0⟩ := hv0
              rw [hv0, hm0, hvs, Nat.zero_add, List.nil_append]
              rw [hm0, Nat.zero_add] at hb1 hb2
              obtain ⟨V', w', h2, h3, h4, h5⟩ := app_run0 (B := B) hT ht hk hte hsz o.type c.w hok.base A ⟨bx, off, none⟩ cs.len cp us hulen huc hu1 h0 hb1 hb2
              exact ⟨V', w', h2, h3, by rw [hvz]; exact h4, fun g hg => .inr (h5 g hg)⟩
            · have hv0 : a.eval s = c.loc id := by
                rcases hv with h | ⟨h, _⟩
                · exact h
                · exact absurd h hvz
              rw [hv0]
              exact app_run1 (B := B) hT ht hk hte hsz o.type c.w hok.base (c.loc id) m vs ho hvz ⟨bx, off, none⟩ cs.len cp us hulen huc hu1 h0 hb1 hb2
          obtain ⟨V', w', hrun, hown, hgr, hnew⟩ := hcase
          have hel : es.len = m + cs.len := by rw [e1, hl]
          obtain ⟨c', hcw, hloc, hpost⟩ := post_upd (V' := V') (blk' := { b with cs := es }) (w' := w') hok hb hgr (by show b.cs.len ≤ es.len; omega) e2 rfl (fun h => by have h' : es.len = b.cs.len := h; omega) hnew
            (fun c' hle hw' => by
              unfold BlkOk
              rw [if_neg (by simp [hbox])]
              refine ⟨vs ++ us, ?_, hres.mono hle⟩
              show c'.w.ownsRow B b.e es.w V' es.len (vs ++ us)
              rw [hw', e2, hbw, hel, hbe]
              exact hown)
          unfold Oper.wp
          rw [fin hrun, ← hcw]
          refine hnext _ _ _ c' hK ?_ hpost
          have hshape : ∃ A cp, V' = .slice A (m + cs.len) cp ∧ m + cs.len ≤ cp := by
            rcases hown.2 with ⟨_, h⟩ | ⟨g, cap, cur, rfl, _, _, h, _⟩
            · omega
            · exact ⟨_, cap, rfl, h⟩
          refine .sl id 0 _ _ _ ((hpost.A id).2 (.inl ha)) hshape fun bl hbl => ?_
          rw [hpost.H] at hbl
          simp [Eff.on, put_same] at hbl
          subst hbl
          exact ⟨hbox, by show m + cs.len ≤ es.len; omega, fun _ => ⟨by simp, fun _ => .inl (by rw [hloc, put_same]), fun h => absurd ⟨rfl, rfl⟩ h⟩⟩
end Go.Pv
