import Derived.Test.YtgheplondkoedaaPvj
import Derived.Great.BuildSlice
namespace Go.Pv
set_option linter.unusedVariables false
set_option linter.unusedSimpArgs false
open Go Go.RowKit
variable {P : Program} {T : Ty} {o : Oper} {a : Act} {c : Cx} {B n : Nat} {tm : Nat → PV} {K : PV → Eff → Prop}

theorem fold_splice (off : Nat) (cs vs : Array Value) (h : off + vs.size ≤ cs.size) : (vs.zipIdx.foldl (fun cs (x : Value × Nat) => cs.setIfInBounds (off + x.2) x.1) cs).toList = cs.toList.take off ++ vs.toList ++ cs.toList.drop (off + vs.size) := by
  have e : vs.zipIdx.foldl (fun cs (x : Value × Nat) => cs.setIfInBounds (off + x.2) x.1) cs = (vs.toList.zipIdx 0).foldl (fun cs (x : Value × Nat) => cs.setIfInBounds (off + x.2) x.1) cs := by
    rw [← Array.foldl_toList, Array.toList_zipIdx]
  obtain ⟨h1, h2⟩ := Great.foldl_set off vs.toList 0 cs
  rw [e]
  apply List.ext_getElem?
  intro k
  have h3 := h2 k
  rw [← Array.getElem?_toList] at h3
  rw [h3]
  have hb : off + vs.toList.length ≤ cs.toList.length := by simpa using h
  have := splice_at cs.toList vs.toList off k hb
  simp only [Array.length_toList] at this
  rw [this]
  simp only [Nat.add_zero, Array.length_toList]
  by_cases ha : k < off
  · rw [if_neg (by omega), if_pos ha]; simp
  · by_cases hc : k < off + vs.size
    · rw [if_pos (by omega), if_neg ha, if_pos hc]
    · rw [if_neg (by omega), if_neg ha, if_neg hc]; simp

theorem RepL.splice {q : Bool} {ps vs : List PV} {us ws : List Value} (h1 : RepL c q ps us) (h2 : RepL c q vs ws) (off : Nat) (h : off + vs.length ≤ ps.length) : RepL c q (ps.take off ++ vs ++ ps.drop (off + vs.length)) (us.take off ++ ws ++ us.drop (off + ws.length)) := by
  have e1 := h1.1
  have e2 := h2.1
  refine ⟨by simp; omega, fun i p u hp hu => ?_⟩
  rw [splice_at _ _ _ _ h] at hp
  rw [splice_at _ _ _ _ (by omega)] at hu
  rw [← e2] at hu
  split at hp
  · rename_i ha
    rw [if_pos ha] at hu
    exact h1.2 i p u hp hu
  · rename_i ha
    rw [if_neg ha] at hu
    split at hp
    · rename_i hb
      rw [if_pos hb] at hu
      exact h2.2 _ p u hp hu
    · rename_i hb
      rw [if_neg hb] at hu
      exact h1.2 i p u hp hu

theorem fill_ok {ρ : TypeId → Operand → PV} (hρ : ∀ t x, Rep c false (ρ t x) (a.eval x)) {pl : Nat → Option (Nat × Nat × TypeId)} {place : Nat → Option (Nat × Nat)} (hpl : ∀ i o s t, pl i = some (o, s, t) → place i = some (o, s)) {K : List PV → Prop} :
    ∀ (parts : List (Nat × Operand)) (cv : Array Value) (cp : List PV), RepL c false cp cv.toList → fillP pl ρ cp parts K →
      ∃ out cells, Instr.fill place cv (parts.map fun x => (x.1, a.eval x.2)) = some out ∧ K cells ∧ RepL c false cells out.toList ∧ out.size = cv.size
  | [], cv, cp, hr, h => ⟨cv, cp, rfl, h, hr, rfl⟩
  | (i, x) :: r, cv, cp, hr, h => by
    unfold fillP at h
    split at h
    · rename_i off size t hp
      split at h
      · rename_i vs hc
        obtain ⟨h1, h2, h3⟩ := h
        have hcell := cells_rep hc (hρ t x)
        have hsz : (a.eval x).cells.size = size := by have := hcell.1; simp at this; omega
        have hcv : cp.length = cv.size := by simpa using hr.1
        have hfit : off + (a.eval x).cells.size ≤ cv.size := by omega
        have hsp := fold_splice off cv (a.eval x).cells hfit
        have hr' : RepL c false (cp.take off ++ vs ++ cp.drop (off + size)) ((a.eval x).cells.zipIdx.foldl (fun cs (x : Value × Nat) => cs.setIfInBounds (off + x.2) x.1) cv).toList := by
          rw [hsp, ← h1]
          have := hr.splice hcell off (by omega)
          simpa using this
        obtain ⟨out, cells, h4, h5, h6, h7⟩ := fill_ok hρ hpl r _ _ hr' h3
        refine ⟨out, cells, ?_, h5, h6, ?_⟩
        · simp only [List.map_cons, Instr.fill, hpl i off size t hp]
          rw [if_neg (by simp [hsz]; omega)]
          exact h4
        · rw [h7]
          have := congrArg List.length hsp
          rw [Array.length_toList] at this
          rw [this]
          simp
          omega
      · exact h.elim
    · exact h.elim

theorem struct_places (hT : TyOk P T) : ∀ (F : List Field), (∀ f ∈ F, (T f.type).isSome = true) →
    ∃ places, F.mapM (fun f => (P.info? f.type).map fun i => (f.offset, i.size)) = some places ∧ ∀ (i : Nat) (f : Field), F[i]? = some f → ∀ tf, T f.type = some tf → places[i]? = some (f.offset, tf.sz)
  | [], _ => ⟨[], rfl, fun i f h => by simp at h⟩
  | f :: F, h => by
    obtain ⟨places, h1, h2⟩ := struct_places hT F (fun g hg => h g (List.mem_cons_of_mem _ hg))
    obtain ⟨tf, ht⟩ := Option.isSome_iff_exists.1 (h f (by simp))
    obtain ⟨i, hi, hs, _⟩ := hT.info _ tf ht
    refine ⟨(f.offset, tf.sz) :: places, by simp [List.mapM_cons, hi, h1, hs], fun j g hg tg htg => ?_⟩
    cases j with
    | zero => simp at hg; subst hg; rw [ht] at htg; cases htg; rfl
    | succ j => simp at hg ⊢; exact h2 j g hg tg htg

theorem zero_rep (hT : TyOk P T) {t : TypeId} {ti : TI} (ht : T t = some ti) : ∃ i z, P.info? t = some i ∧ i.zero = some z ∧ z.cells.size = ti.sz ∧ i.size = ti.sz ∧ i.bytes = ti.bytes ∧ ∀ (c : Cx) q, Rep c q ti.zero z := by
  obtain ⟨i, h1, h2, h3, z, h4, h5, h6⟩ := hT.info t ti ht
  exact ⟨i, z, h1, h4, h6, h2, h3, h5⟩

theorem does_build (hT : TyOk P T) (hok : HeapOk c B) {ρ : TypeId → Operand → PV} (hρ : ∀ t x, Rep c false (ρ t x) (a.eval x)) {t : TypeId} {parts : Array (Nat × Operand)} (hop : o.op = .build t parts) {ti : TI} (ht : T t = some ti) {z : List PV} (hz : ti.zero = .agg z)
    {pl : Nat → Option (Nat × Nat × TypeId)}
    (hpl : (∃ fs, ti.k = .struct fs ∧ ∀ i o s t, pl i = some (o, s, t) → ∃ tf, fs[i]? = some (t, o) ∧ T t = some tf ∧ tf.sz = s) ∨ (∃ m e te, ti.k = .arr m e ∧ T e = some te ∧ ∀ i o s t, pl i = some (o, s, t) → o = i * te.sz ∧ s = te.sz))
    (h : fillP pl ρ z parts.toList fun cells => K (.agg cells) []) : Does P o a c B K := by
  obtain ⟨i, zv, hi, hzv, hzs, hsz, hby, hzr⟩ := zero_rep hT ht
  have hzc := hzr c false
  rw [hz] at hzc
  have hzl : RepL c false z zv.cells.toList := cells_rep (p := .agg z) rfl hzc
  have hbuilt : ∃ out cells, P.built t (parts.map fun x => (x.1, a.eval x.2)).toList = some out ∧ K (.agg cells) [] ∧ RepL c false cells out.toList := by
    rcases hpl with ⟨fs, hk, hp⟩ | ⟨m, e, te, hk, hte, hp⟩
    · obtain ⟨F, hF, hm, hall⟩ := hT.struct t ti fs ht hk
      obtain ⟨places, h1, h2⟩ := struct_places hT F.toList (fun f hf => hall _ (by rw [← hm]; exact List.mem_map.2 ⟨f, hf, rfl⟩))
      obtain ⟨out, cells, h3, h4, h5, _⟩ := fill_ok (place := (places.toArray[·]?)) hρ (fun i o s t hq => by
        obtain ⟨tf, h6, h7, h8⟩ := hp i o s t hq
        rw [← hm, List.getElem?_map] at h6
        cases hf : F.toList[i]? with
        | none => rw [hf] at h6; cases h6
        | some f =>
          rw [hf] at h6
          simp at h6
          obtain ⟨rfl, rfl⟩ := h6
          have := h2 i f hf tf h7
          rw [h8] at this
          simpa using this) parts.toList zv.cells z hzl h
      refine ⟨out, cells, ?_, h4, h5⟩
      unfold Program.built
      simp only [hi, hF, hzv, h1]
      rw [Array.toList_map]
      exact h3
    · have hu := hT.arr t ti m e ht hk
      obtain ⟨ie, h6, h7, _⟩ := hT.info e te hte
      obtain ⟨out, cells, h3, h4, h5, _⟩ := fill_ok (place := fun i => some (i * ie.size, ie.size)) hρ (fun i o s t hq => by
        obtain ⟨rfl, rfl⟩ := hp i o s t hq
        rw [h7]) parts.toList zv.cells z hzl h
      refine ⟨out, cells, ?_, h4, h5⟩
      unfold Program.built
      simp only [hi, hu, hzv, h6]
      rw [Array.toList_map]
      exact h3
  obtain ⟨out, cells, hb, hK, hr⟩ := hbuilt
  have hrun := run_build (P := P) c.w t (parts.map fun x => (x.1, a.eval x.2)) out hb
  refine does_sem (s := Instr.build t (parts.map fun x => (x.1, a.eval x.2))) (by simp only [execOp, hop]) hrun (.agg false cells out (by simpa using hr.1) (fun i p v h1 h2 => hr.2 i p v h1 (by simpa using h2))) hK hok

theorem toInts_ok {k : IntKind} : ∀ (ps : List PV) (xs : List Int), toInts k ps = some xs → ps = xs.map (PV.int k)
  | [], xs, h => by simp [toInts] at h; subst h; rfl
  | p :: ps, xs, h => by
    cases p <;> simp only [toInts] at h <;> try (cases h; done)
    rename_i k' n
    split at h
    · rename_i hk
      subst hk
      cases hq : toInts k' ps with
      | none => rw [hq] at h; cases h
      | some ys =>
        rw [hq] at h
        simp at h
        subst h
        rw [List.map_cons, ← toInts_ok ps ys hq]
    · cases h
theorem chunks_get (w : Nat) : ∀ (n : Nat) (l : List PV) (i j : Nat), i < n → j < w → ((chunks w n l).getD i []).getD j .any = l.getD (i * w + j) .any
  | 0, l, i, j, h, _ => by omega
  | n + 1, l, i, j, h, hj => by
    cases i with
    | zero =>
      simp only [chunks, List.getD_eq_getElem?_getD, List.getElem?_cons_zero, Option.getD_some, Nat.zero_mul, Nat.zero_add]
      rw [List.getElem?_take_of_lt hj]
    | succ i =>
      have := chunks_get w n (l.drop w) i j (by omega) hj
      simp only [List.getD_eq_getElem?_getD] at this
      simp only [chunks, List.getD_eq_getElem?_getD, List.getElem?_cons_succ]
      rw [this, List.getElem?_drop]
      congr 2
      rw [Nat.add_mul]
      omega
theorem chunks_len (w : Nat) : ∀ (n : Nat) (l : List PV), (chunks w n l).length = n
  | 0, _ => rfl
  | n + 1, l => by simp [chunks, chunks_len w n]

theorem mkC_ok (hT : TyOk P T) {e : TypeId} {te : TI} (hte : T e = some te) {len : Nat} {q : Bool} {ps : List PV} {us : List Value} {cs : Cells} (h : mkC te len ps = some cs) (hr : RepL c q ps us) (hl : ps.length = len * te.sz) (h1 : ∀ u ∈ us, u.oneCell' = true) : Reps c q cs us ∧ cs.len = len ∧ cs.w = te.sz := by
  have plain : cs = .rows te.sz (chunks te.sz len ps) → Reps c q cs us ∧ cs.len = len ∧ cs.w = te.sz := fun e => by
    subst e
    have hcl : (Cells.rows te.sz (chunks te.sz len ps)).len = len := chunks_len _ _ _
    refine ⟨⟨by rw [hcl]; simp only [Cells.w]; rw [← hr.1, hl], fun i j hi hj => ?_⟩, hcl, rfl⟩
    rw [hcl] at hi
    simp only [Cells.w] at hj ⊢
    have hk : i * te.sz + j < us.length := by rw [← hr.1, hl]; have := idx_lt hi hj; omega
    have e1 : us[i * te.sz + j]? = some us[i * te.sz + j] := List.getElem?_eq_getElem hk
    have hk2 : i * te.sz + j < ps.length := by rw [hr.1]; exact hk
    have e2 : ps[i * te.sz + j]? = some ps[i * te.sz + j] := List.getElem?_eq_getElem hk2
    refine ⟨_, e1, ?_, h1 _ (List.getElem_mem _)⟩
    simp only [Cells.get]
    rw [chunks_get te.sz len ps i j hi hj, List.getD_eq_getElem?_getD, e2]
    exact hr.2 _ _ _ e2 e1
  unfold mkC at h
  split at h
  · rename_i k hk
    have hsz := (hT.int e te k hte hk).2
    cases hq : toInts k ps with
    | none => rw [hq] at h; cases h
    | some xs =>
      rw [hq] at h
      simp at h
      subst h
      have hps := toInts_ok ps xs hq
      rw [hsz, Nat.mul_one] at hl
      have hxl : xs.length = len := by rw [← hl, hps]; simp
      refine ⟨⟨?_, fun i j hi hj => ?_⟩, hxl, hsz.symm⟩
      · simp only [Cells.len, Cells.w, Nat.mul_one]; rw [← hr.1, hps]; simp
      · simp only [Cells.len, Cells.w] at hi hj ⊢
        have hk' : i < us.length := by rw [← hr.1, hps]; simpa using hi
        have e1 : us[i]? = some us[i] := List.getElem?_eq_getElem hk'
        refine ⟨us[i], by rw [Nat.mul_one, show j = 0 by omega, Nat.add_zero]; exact e1, ?_, h1 _ (List.getElem_mem _)⟩
        have e2 : ps[i]? = some (PV.int k (xs.getD i 0)) := by rw [hps]; simp [hi]
        simpa [Cells.get] using hr.2 i _ _ e2 e1
  · simp at h
    exact plain h.symm

theorem sub_all (cs : Cells) (n : Nat) (h : cs.len = n) : cs.sub 0 n = cs := by
  subst h
  cases cs <;> simp [Cells.sub, Cells.len]
/-- A new row: to be read, or the call's own. -/
theorem fresh_row (hok : HeapOk c B) (hn : ¬ c.A n) {out : Array Value} {cs : Cells} {e : TypeId} {len sz : Nat} {v : Value → Act} {next : Act → World → Prop} (hreps : Reps c true cs out.toList) (hcl : cs.len = len) (hcw : cs.w = sz) (hlenO : out.size = len * sz) (hs0 : 0 < sz) (hbig : len ≤ maxLen) {pre : Eff} {K : PV → Eff → Prop}
    (h : K (.ro cs) pre ∨ K (.sl n 0 len len) (pre ++ [(n, some ⟨cs, false, e⟩)]))
    (hnext : ∀ pv eff c', K pv (pre ++ eff) → Rep c' false pv (.slice (some ⟨c.w.heap.size, 0, none⟩) len len) → Post c c' B eff → c'.w = c.w.alloc (.cells out e) → next (v (.slice (some ⟨c.w.heap.size, 0, none⟩) len len)) (c.w.alloc (.cells out e))) :
    next (v (.slice (some ⟨c.w.heap.size, 0, none⟩) len len)) (c.w.alloc (.cells out e)) := by
  have hgr := World.grownBy_alloc c.w (.cells out e) none
  have hnew : (c.w.alloc (.cells out e)).heap[c.w.heap.size]? = some (.cells out e (0, 0)) := heap_alloc_new c.w _
  rcases h with hm | hm
  · obtain ⟨c', hcw', hloc, how, hpost⟩ := post_world hok hgr
    refine hnext _ [] c' (by simpa using hm) ?_ hpost hcw'
    by_cases h0 : len = 0
    · subst h0
      exact .ro0 false cs _ _ hcl
    · have hat : At c' true cs c.w.heap.size 0 := (hreps.mono hpost.le).at_ (w := c.w) (fun j u hj => by
        rw [hcw', cell_of_row _ _ j out e (0, 0) hnew]
        simpa using hj)
      have := ro_of_at c' hat (by rw [how]; exact fun hb => Nat.lt_irrefl _ (hok.lt _ hb)) (by rw [hcw']; simp) false 0 len (by omega) (Nat.le_refl _) (by omega)
      rw [Nat.zero_mul, Nat.zero_add, sub_all cs len hcl] at this
      exact this
  · obtain ⟨c', hcw', hloc, hpost⟩ := post_new (id := n) (V' := .slice (some ⟨c.w.heap.size, 0, none⟩) len len) (blk' := ⟨cs, false, e⟩) hok hn hgr (fun g hg => by simp [blkOf] at hg; omega)
      (fun c' hle hw' => by
        unfold BlkOk
        rw [if_neg (by simp)]
        refine ⟨out.toList, ⟨hreps.1, .inr ⟨c.w.heap.size, len, out, ?_, hok.base, ?_, ?_, ?_, ?_, ?_⟩⟩, hreps.mono hle⟩
        · show Value.slice _ len len = .slice _ cs.len len
          rw [hcl]
        · rw [hw']; exact hnew
        · show cs.len ≤ len
          omega
        · exact hbig
        · show out.size = len * cs.w
          rw [hlenO, hcw]
        · show out.toList.take (cs.len * cs.w) = out.toList
          rw [hcl, hcw, ← hlenO]
          exact List.take_length)
    refine hnext _ _ c' hm ?_ hpost hcw'
    refine .sl n 0 len len _ ((hpost.A n).2 (.inr (by simp))) ⟨_, _, rfl, Nat.le_refl _⟩ fun bl hb => ?_
    rw [hpost.H] at hb
    simp [Eff.on, put_same] at hb
    subst hb
    exact ⟨rfl, by show len ≤ cs.len; omega, fun _ => ⟨by simp, fun _ => .inl (by rw [hloc, put_same]), fun h => absurd ⟨rfl, rfl⟩ h⟩⟩

theorem run_buildSlice0 (w : World) (t e : TypeId) (parts : Array (Nat × Value)) (cells : Array Value) (ie : TypeInfo) (f : Nat → Value)
    (hu : P.underlying t = some (.slice e)) (hie : P.info? e = some ie)
    (h : Instr.fill (fun i => some (i * ie.size, ie.size)) ((Array.range (0 * ie.size)).map f) parts.toList = some cells) :
    (Instr.buildSlice t 0 parts).run P w = .ok (.slice (some ⟨w.heap.size, 0, none⟩) 0 0) (w.alloc (.cells cells e)) := by
  have e1 : ∀ f : Nat → Value, Array.map f (Array.range 0) = #[] := fun f => Array.eq_empty_of_size_eq_zero (by simp)
  rw [Nat.zero_mul, e1] at h
  simp [Instr.buildSlice, run_underlying hu, sizeOf, typeInfo, hie, h, e1, newRow]

/-- A literal slice. -/
theorem does_lit (hT : TyOk P T) (hok : HeapOk c B) (hn : ¬ c.A n) {ρ : TypeId → Operand → PV} (hρ : ∀ t x, Rep c false (ρ t x) (a.eval x)) {t e : TypeId} {len : Nat} {parts : Array (Nat × Operand)} (hop : o.op = .buildSlice t len parts) {tt te : TI} (ht : T t = some tt) (hk : tt.k = .slice e) (hte : T e = some te)
    (h0 : 0 ≤ len) (hs0 : 0 < te.sz) (hbig : len * te.sz ≤ 16777216) {z : List PV} (hz : cellsOf te.zero = some z)
    (h : fillP (fun i => some (i * te.sz, te.sz, e)) ρ ((List.replicate len z).flatten) parts.toList fun cells =>
            cells.all PV.one = true ∧ mvL c.H cells fun cells' ef => match mkC te len cells' with
              | some cs => K (.ro cs) ef ∨ K (.sl n 0 len len) (ef ++ [(n, some ⟨cs, false, e⟩)])
              | none => False) : Does P o a c B K := fun next Q hnext => by
  obtain ⟨ie, zv, hi, hzv, hzs, hsz, hby, hzr⟩ := zero_rep hT hte
  have hzl : RepL c false z zv.cells.toList := cells_rep hz (hzr c false)
  have hzlen : z.length = te.sz := by have := hzl.1; simp at this; omega
  have hmade : ∀ k, ((Array.range (len * ie.size)).map (zv.cells[· % zv.cells.size]!))[k]? = if k < len * te.sz then some (zv.cells[k % te.sz]!) else none := fun k => by
    simp only [Array.getElem?_map, Array.getElem?_range, hsz, hzs]
    split <;> rfl
  have hflat : ∀ (m k : Nat), ((List.replicate m z).flatten)[k]? = if k < m * te.sz then z[k % te.sz]? else none := fun m => by
    induction m with
    | zero => intro k; simp
    | succ m ih =>
      intro k
      rw [List.replicate_succ, List.flatten_cons]
      by_cases hk : k < te.sz
      · rw [List.getElem?_append_left (by omega), if_pos (by rw [Nat.add_mul]; omega), Nat.mod_eq_of_lt hk]
      · rw [List.getElem?_append_right (by omega), ih, hzlen, Nat.add_mul, Nat.one_mul]
        have : (k - te.sz) % te.sz = k % te.sz := by
          conv => rhs; rw [show k = k - te.sz + te.sz by omega, Nat.add_mod_right]
        rw [this]
        by_cases h2 : k < m * te.sz + te.sz
        · rw [if_pos (by omega), if_pos h2]
        · rw [if_neg (by omega), if_neg h2]
  have hstart : RepL c false ((List.replicate len z).flatten) ((Array.range (len * ie.size)).map (zv.cells[· % zv.cells.size]!)).toList := by
    refine ⟨by simp [hzlen, hsz], fun k p u hp hu => ?_⟩
    rw [Array.getElem?_toList, hmade] at hu
    rw [hflat] at hp
    split at hu
    · rename_i hk
      rw [if_pos hk] at hp
      simp at hu
      subst hu
      have hm : k % te.sz < zv.cells.size := by rw [hzs]; exact Nat.mod_lt _ hs0
      have e1 : zv.cells.toList[k % te.sz]? = some (zv.cells[k % te.sz]!) := by
        rw [Array.getElem?_toList, Array.getElem?_eq_getElem hm]
        simp [hm]
      exact hzl.2 _ _ _ hp e1
    · cases hu
  obtain ⟨out, cells, hfill, ⟨hone, hmv⟩, hr, hosz⟩ := fill_ok (place := fun i => some (i * ie.size, ie.size)) hρ (fun i o s t hq => by simp at hq; obtain ⟨rfl, rfl, rfl⟩ := hq; rw [hsz]) parts.toList _ _ hstart h
  have hu := (hT.slice t tt e ht hk).1
  have hrun : (execOp a.eval o).run P c.w = .ok (.value (.slice (some ⟨c.w.heap.size, 0, none⟩) len len)) (c.w.alloc (.cells out e)) := by
    by_cases hz0 : len = 0
    · subst hz0
      have := run_buildSlice0 (P := P) c.w t e (parts.map fun (i, x) => (i, a.eval x)) out ie _ hu hi (by rw [Array.toList_map]; exact hfill)
      simp only [execOp, hop, Sem.run_bind, this, Result.andThen_ok]
      rfl
    have := run_buildSlice (P := P) c.w t e len (parts.map fun (i, x) => (i, a.eval x)) out ie zv hu hi hzv (by rw [hsz]; omega) (by rw [hsz]; have := Nat.mul_pos (Nat.pos_of_ne_zero hz0) hs0; omega) (by rw [Array.toList_map]; exact hfill)
    simp only [execOp, hop, Sem.run_bind, this, Result.andThen_ok]
    rfl
  have hlenO : out.size = len * te.sz := by rw [hosz]; simp [hsz]
  have h1 : ∀ u ∈ out.toList, u.oneCell' = true := fun u hu => by
    obtain ⟨k, hk⟩ := List.getElem?_of_mem hu
    have hlt : k < cells.length := by
      rcases Nat.lt_or_ge k cells.length with h | h
      · exact h
      · have := hr.1; rw [List.getElem?_eq_none (by omega)] at hk; cases hk
    exact one_rep (List.all_eq_true.1 hone _ (List.getElem_mem hlt)) (hr.2 k _ u (List.getElem?_eq_getElem hlt) hk)
  obtain ⟨cells', ef, c1, hm, hr1, hw1, hp1, hA1⟩ := mvL_ok cells _ c _ hok hr hmv
  split at hm
  · rename_i cs hcs
    have hl1 : cells'.length = len * te.sz := by have := hr1.1; simp [hlenO] at this; omega
    obtain ⟨hreps, hcl, hcw⟩ := mkC_ok hT hte hcs hr1 hl1 h1
    unfold Oper.wp
    rw [hrun, ← hw1]
    refine fresh_row (v := fun v => a.put o.dst v) (next := next) hp1.heap (fun h => hn (hA1 n h)) hreps hcl hcw hlenO hs0 ?_ hm (fun pv eff c' hk hrep hpost hcw' => ?_)
    · unfold maxLen
      have : len * 1 ≤ len * te.sz := Nat.mul_le_mul_left _ hs0
      omega
    · rw [← hcw']
      exact hnext _ _ _ c' hk hrep (hp1.trans hpost)
  · exact hm.elim

theorem does_make (hT : TyOk P T) (hok : HeapOk c B) (hn : ¬ c.A n) {t e : TypeId} {l cp : Operand} (hop : o.op = .makeSlice t l cp) {tt te : TI} (ht : T t = some tt) (hk : tt.k = .slice e) (hte : T e = some te) {k1 k2 : IntKind} {x : Int} (hl : a.eval l = .int k1 x) (hc : a.eval cp = .int k2 x)
    (h0 : 0 ≤ x) (hb1 : x * te.bytes ≤ 140737488355328) (hb2 : x ≤ 140737488355328) (hs0 : 0 < te.sz) {cs : Cells} (hlen : cs.len = x.toNat) (hw : cs.w = te.sz)
    (hcs : ∀ (zv : Value), zv.cells.size = te.sz → Rep c false te.zero zv → ∀ i j, i < x.toNat → j < te.sz → ∃ v, zv.cells[j]? = some v ∧ Rep c true (cs.get i j) v ∧ v.oneCell' = true)
    (h : K (.ro cs) [] ∨ K (.sl n 0 x.toNat x.toNat) [(n, some ⟨cs, false, e⟩)]) : Does P o a c B K := fun next Q hnext => by
  obtain ⟨ie, zv, hi, hzv, hzs, hsz, hby, hzr⟩ := zero_rep hT hte
  have hu := (hT.slice t tt e ht hk).1
  have hcell := hcs zv hzs (hzr c false)
  have hbb : (ie.bytes : Int) * x ≤ 281474976710656 := by
    rw [hby, Int.mul_comm]
    omega
  have hrun : (execOp a.eval o).run P c.w = .ok (.value (.slice (some ⟨c.w.heap.size, 0, none⟩) x.toNat x.toNat)) (c.w.alloc (.cells (madeCells zv.cells (x.toNat * te.sz)) e)) := by
    have := run_make (P := P) c.w t e ie zv hu hi hzv k1 k2 x x h0 (Int.le_refl x) hbb (by omega)
    simp only [execOp, hop, hl, hc, Sem.run_bind, this, Result.andThen_ok, hsz]
    rfl
  have hmade : ∀ k, (madeCells zv.cells (x.toNat * te.sz))[k]? = if k < x.toNat * te.sz then some (zv.cells[k % te.sz]!) else none := fun k => by
    simp only [madeCells, Array.getElem?_map, Array.getElem?_range, hzs]
    split <;> rfl
  unfold Oper.wp
  rw [hrun]
  refine fresh_row (v := fun v => a.put o.dst v) (next := next) (pre := []) (sz := te.sz) hok hn ⟨by rw [hlen, hw]; simp [size_madeCells], fun i j hi' hj => ?_⟩ hlen hw (size_madeCells _ _) hs0 (by unfold maxLen; omega) h (fun pv eff c' hk hrep hpost hcw' => ?_)
  · rw [hlen] at hi'
    rw [hw] at hj ⊢
    obtain ⟨v, h1, h2, h3⟩ := hcell i j hi' hj
    refine ⟨v, ?_, h2, h3⟩
    have hlt := idx_lt hi' hj
    rw [Array.getElem?_toList, hmade, if_pos hlt]
    have hm : (i * te.sz + j) % te.sz = j := by rw [Nat.mul_comm i, Nat.mul_add_mod, Nat.mod_eq_of_lt hj]
    have hjs : j < zv.cells.size := by omega
    rw [hm]
    simp [hjs] at h1 ⊢
    exact h1
  · rw [← hcw']
    exact hnext _ _ _ c' hk hrep hpost

/-- A slice of an array of the call's own. -/
theorem does_slA (hT : TyOk P T) (hok : HeapOk c B) {ρ : TypeId → Operand → PV} (hρ : ∀ t x, Rep c false (ρ t x) (a.eval x)) {t m e : TypeId} {x : Operand} {hi : Option Operand} (hop : o.op = .slice t x none hi none) {tt : TI} (ht : T t = some tt) (hk : tt.k = .arr m e) {te : TI} (hte : T e = some te)
    (h : oidx ρ hi fun h => slA c.H m (h.getD m) (ρ 0 x) fun v => K v []) : Does P o a c B K := by
  have hu := hT.arr t tt m e ht hk
  obtain ⟨ho, hh, h⟩ : ∃ ho : Int, ((hi = none ∧ ho = m) ∨ ∃ k, hi.map a.eval = some (.int k ho)) ∧ slA c.H m ho (ρ 0 x) fun v => K v [] := by
    cases hi with
    | none => exact ⟨m, .inl ⟨rfl, rfl⟩, h⟩
    | some y =>
      obtain ⟨k, i, hi, h⟩ := idx_ok (hρ 0 y) h
      exact ⟨i, .inr ⟨k, by simp [hi]⟩, h⟩
  have hx := hρ 0 x
  cases hp : ρ 0 x <;> rw [hp] at h hx <;> try (exact h.elim)
  rename_i id i j tot
  unfold slA at h
  dsimp only at h
  split at h
  · rename_i b hb
    obtain ⟨hbox, hlen, rfl, rfl, h0, h1, h⟩ := h
    have hx2 := hx
    cases hx with
    | ptr _ _ _ _ _ ha hs hkk =>
      obtain ⟨_, hg⟩ := hkk b hb
      obtain ⟨g, hg, hv⟩ := hg hlen
      have hv : a.eval x = .pointer (some ⟨g, j, none⟩) := by rw [hv]; simp
      refine does_sem (s := Instr.sliceAt t (a.eval x) none (hi.map a.eval) none) (v := .slice (some ⟨g, j, none⟩) ho.toNat m) (by simp only [execOp, hop]; rfl) ?_ ?_ h hok
      · have c1 : 0 ≤ ho ∧ ho ≤ (m : Int) := ⟨h0, h1⟩
        have hb : (Instr.sliceBounds false m m none (hi.map a.eval) none).run P c.w = .ok (0, ho.toNat, m) c.w := by
          rcases hh with ⟨rfl, rfl⟩ | ⟨k, hh⟩
          · simp [Instr.sliceBounds]
          · simp [Instr.sliceBounds, hh, Instr.sliceBound, asIntOf, c1]
        rw [hv]
        simp only [Instr.sliceAt, Sem.run_bind, run_underlying hu, Result.andThen_ok, Instr.sureAddr, Sem.run_pure, hb, sizeOf_run hT hte]
        simp [Addr.add_lit]
      · refine .asl id j ho.toNat _ ha ⟨_, _, rfl, by omega⟩ fun b2 hb2 => ?_
        rw [hb] at hb2
        cases hb2
        exact ⟨hbox, by omega, fun _ => ⟨g, m, hg, rfl⟩⟩
  · exact h.elim
/-! ### The other operations -/
theorem does_slice (hT : TyOk P T) (hok : HeapOk c B) {t e : TypeId} {x : Operand} {lo hi : Option Operand} (hop : o.op = .slice t x lo hi none) {tt te : TI} (ht : T t = some tt) (hk : tt.k = .slice e) (hte : T e = some te) {k1 k2 : IntKind} {l h : Int} {p : PV} (hx : Rep c false p (a.eval x))
    (hlo : (lo.map a.eval = none ∧ l = 0) ∨ lo.map a.eval = some (.int k1 l)) (hhi : (∃ m : Nat, hi.map a.eval = none ∧ h = m ∧ ∃ A cp, a.eval x = .slice A m cp) ∨ hi.map a.eval = some (.int k2 h))
    (h0 : 0 ≤ l) (h1 : l ≤ h) {m : Nat} (hm : ∃ A cp, a.eval x = .slice A m cp ∧ m ≤ cp) (h2 : h ≤ m) {q : PV} (hK : K q [])
    (hq : ∀ A cp, a.eval x = .slice A m cp → m ≤ cp → Rep c false q (.slice (if cp = l.toNat then A else A.map (·.add (l.toNat * te.sz))) (h.toNat - l.toNat) (cp - l.toNat))) : Does P o a c B K := by
  obtain ⟨A, cp, hv, hcp⟩ := hm
  have hu := (hT.slice t tt e ht hk).1
  refine does_sem (s := Instr.sliceAt t (a.eval x) (lo.map a.eval) (hi.map a.eval) none) (by simp only [execOp, hop]; rfl) ?_ (hq A cp hv hcp) hK hok
  have hb : (Instr.sliceBounds true m cp (lo.map a.eval) (hi.map a.eval) none).run P c.w = .ok (l.toNat, h.toNat, cp) c.w := by
    have c1 : 0 ≤ h ∧ h ≤ (cp : Int) := by omega
    have c2 : 0 ≤ l ∧ l ≤ h := ⟨h0, h1⟩
    have c3 : max h 0 = h := by omega
    rcases hhi with ⟨m', h3, h4, A', cp', h5⟩ | h3
    · rw [hv] at h5
      cases h5
      rcases hlo with ⟨h6, h7⟩ | h6
      · simp [Instr.sliceBounds, h3, h6, h7, h4]
      · have c4 : 0 ≤ l ∧ l ≤ (m : Int) := by omega
        simp [Instr.sliceBounds, h3, h6, Instr.sliceBound, asIntOf, c4, h4]
    · rcases hlo with ⟨h6, h7⟩ | h6
      · simp [Instr.sliceBounds, h3, h6, Instr.sliceBound, asIntOf, c1, h7]
      · simp [Instr.sliceBounds, h3, h6, Instr.sliceBound, asIntOf, c1, c2, c3]
  rw [hv]
  simp only [Instr.sliceAt, Sem.run_bind, run_underlying hu, Result.andThen_ok, Instr.slice, if_true, hb, sizeOf_run hT hte]
  rfl
end Go.Pv
