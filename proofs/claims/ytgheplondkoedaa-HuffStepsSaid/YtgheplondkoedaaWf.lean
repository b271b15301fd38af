import Derived.Test.YtgheplondkoedaaWb
import Derived.OpenShut
import Derived.ChangeArms
import Derived.ChangeSlices
namespace Go.Pv
set_option linter.unusedVariables false
set_option linter.unusedSimpArgs false
open Go Go.RowKit
/-! ### Arguments of any type, as the frame of a law tells of them -/
def ShF (S : TypeId → List PV → Prop) : List (TypeId × Nat) → List PV → Prop
  | [], ps => ps = []
  | p :: r, ps => ∃ a b, ps = a ++ b ∧ S p.1 a ∧ ShF S r b
/-- The cells of a value of the type. -/
def ShC (T : Ty) : Nat → TypeId → List PV → Prop
  | 0, _, _ => False
  | n + 1, t, ps => match T t with
    | none => False
    | some ti => match ti.k with
      | .int k => ∃ z, ps = [.int k z] ∧ (Lit.int k z).wf = true
      | .bool => ∃ b, ps = [.bool b]
      | .str => ∃ s : ByteArray, ps = [.str s] ∧ s.size ≤ maxLen
      | .slice e => ∃ cs, ps = [.ro cs] ∧ cs.len ≤ maxLen ∧ (match T e with
        | none => False
        | some te => match te.k with
          | .int k => ∃ xs, cs = .ints k xs ∧ ∀ x ∈ xs, (Lit.int k x).wf = true
          | _ => ∃ rs, cs = .rows te.sz rs ∧ ∀ r ∈ rs, ShC T n e r)
      | .struct fs => ShF (ShC T n) fs ps
      | .arr m e => match T e with
        | none => False
        | some te => ShF (ShC T n) ((List.range m).map fun i => (e, i * te.sz)) ps
      | .other => False
def contig (T : Ty) (sz : Nat) : Nat → List (TypeId × Nat) → Bool
  | o, [] => o == sz
  | o, p :: r => match T p.1 with
    | some tf => p.2 == o && contig T sz (o + tf.sz) r
    | none => false
def okT (T : Ty) : Nat → TypeId → Bool
  | 0, _ => false
  | n + 1, t => match T t with
    | none => false
    | some ti => match ti.k with
      | .int _ | .bool | .str => true
      | .slice e => (match T e with | none => false | some te => decide (0 < te.sz)) && okT T n e
      | .struct fs => contig T ti.sz 0 fs && fs.all fun p => okT T n p.1
      | .arr m e => (match T e with | none => false | some te => contig T ti.sz 0 ((List.range m).map fun i => (e, i * te.sz))) && okT T n e
      | .other => false

section
variable {P : Program} {T : Ty} {H : Type} {enc : TypeId × Value → H} {w : World} {sp : Nat → Bool} {held : Bool}

theorem cellsOf_sz (hT : TyOk P T) {t : TypeId} {ti : TI} (ht : T t = some ti) : P.cellsOf t = ti.sz := by
  obtain ⟨i, hi, hs, _⟩ := hT.info t ti ht
  simp [Program.cellsOf, hi, hs]

def Got (w : World) (S : List PV → Prop) (cs : List Value) : Prop := ∃ ps, S ps ∧ RepL (see none1 w) true ps cs ∧ ps.all PV.one = true

theorem shF_got (hT : TyOk P T) {S : TypeId → List PV → Prop} {sz : Nat} {cs : List Value} (hl : cs.length = sz) : ∀ (fs : List (TypeId × Nat)) (o : Nat), contig T sz o fs = true → o ≤ sz →
    (∀ p ∈ fs, ∀ tf, T p.1 = some tf → Got w (S p.1) ((cs.drop p.2).take tf.sz)) → Got w (ShF S fs) (cs.drop o)
  | [], o, hc, ho, _ => by
    simp only [contig, beq_iff_eq] at hc
    have : cs.drop o = [] := List.drop_eq_nil_of_le (by omega)
    rw [this]
    exact ⟨[], rfl, .nil, rfl⟩
  | p :: r, o, hc, ho, h => by
    simp only [contig] at hc
    cases ht : T p.1 with
    | none => rw [ht] at hc; cases hc
    | some tf =>
      rw [ht] at hc
      simp only [Bool.and_eq_true, beq_iff_eq] at hc
      obtain ⟨a, h1, h2, h3⟩ := h p (by simp) tf ht
      rw [hc.1] at h2
      have ho' : o + tf.sz ≤ sz := by
        have : ∀ (fs : List (TypeId × Nat)) (o : Nat), contig T sz o fs = true → o ≤ sz := by
          intro fs
          induction fs with
          | nil => intro o h; simp only [contig, beq_iff_eq] at h; omega
          | cons q fs ih =>
            intro o h
            simp only [contig] at h
            split at h
            · simp only [Bool.and_eq_true] at h
              have := ih _ h.2
              omega
            · cases h
        exact this r _ hc.2
      obtain ⟨b, k1, k2, k3⟩ := shF_got hT hl r (o + tf.sz) hc.2 ho' fun q hq => h q (List.mem_cons_of_mem _ hq)
      refine ⟨a ++ b, ⟨a, b, rfl, h1, k1⟩, ?_, by rw [List.all_append, h3, k3]; rfl⟩
      have := h2.app k2
      rwa [← List.drop_drop, List.take_append_drop] at this

theorem ro_mk {c : Cx} {q : Bool} {cs : Cells} {b off cp : Nat} (hat : At c true cs b off) (hb : ¬ c.ow b) (hlt : b < c.w.heap.size) (hcp : cs.len ≤ cp) (h0 : 0 < cs.len) : Rep c q (.ro cs) (.slice (some ⟨b, off, none⟩) cs.len cp) := by
  have := ro_of_at c hat hb hlt q 0 cs.len (by omega) hcp h0
  have e : cs.sub 0 cs.len = cs := by cases cs <;> simp [Cells.sub, Cells.len]
  rwa [e, Nat.zero_mul, Nat.add_zero] at this

theorem open_cells (hT : TyOk P T) : ∀ (n : Nat) (t : TypeId) (fuel : Nat) (cs : List Value) (x : DataW H × List MemPlace), okT T n t = true → DataW.trod enc P w 0 sp held fuel t cs = some x → Got w (ShC T n t) cs
  | 0, _, _, _, _, h, _ => by cases h
  | n + 1, t, fuel, cs, x, h, hx => by
    have ih := open_cells hT n
    unfold okT at h
    cases ht : T t with
    | none => rw [ht] at h; cases h
    | some ti =>
      rw [ht] at h
      simp only at h
      unfold Got ShC
      rw [ht]
      dsimp only
      cases hk : ti.k with
      | int k =>
        obtain ⟨z, rfl, _, hw⟩ := DataW.trod_int (hT.int t ti k ht hk).1 hx
        exact ⟨[.int k z], ⟨z, rfl, hw⟩, .cons (.int ..) .nil, rfl⟩
      | bool =>
        obtain ⟨b, rfl, _⟩ := DataW.trod_bool (hT.bool t ti ht hk).1 hx
        exact ⟨[.bool b], ⟨b, rfl⟩, .cons (.bool ..) .nil, rfl⟩
      | str =>
        obtain ⟨s, rfl, _, hs⟩ := DataW.trod_string (hT.str t ti ht hk).1 hx
        exact ⟨[.str s], ⟨s, rfl, hs⟩, .cons (.str ..) .nil, rfl⟩
      | other => rw [hk] at h; cases h
      | struct fs =>
        rw [hk] at h
        simp only [Bool.and_eq_true] at h
        obtain ⟨F, hF, hm, _⟩ := hT.struct t ti fs ht hk
        obtain ⟨xs, m, _, _, hl, hxl, hf⟩ := DataW.trod_struct hF hx
        rw [cellsOf_sz hT ht] at hl
        have := shF_got (w := w) hT (S := ShC T n) hl fs 0 h.1 (Nat.zero_le _) fun p hp tf htf => by
          rw [← hm] at hp
          obtain ⟨f, hfm, rfl⟩ := List.mem_map.1 hp
          obtain ⟨i, hi, hif⟩ := List.getElem_of_mem hfm
          have hi2 : F[i]? = some f := by rw [← Array.getElem?_toList, List.getElem?_eq_getElem hi, hif]
          have h2 := hf i f hi2
          have hix : i < xs.length := by rw [hxl]; simpa using hi
          rw [List.getElem?_eq_getElem hix, cellsOf_sz hT htf] at h2
          exact ih f.type m _ _ (List.all_eq_true.1 h.2 _ (by rw [← hm]; exact List.mem_map.2 ⟨f, hfm, rfl⟩)) h2
        exact this
      | arr m e =>
        rw [hk] at h
        simp only [Bool.and_eq_true] at h
        cases hte : T e with
        | none => rw [hte] at h; exact absurd h.1 (by simp)
        | some te =>
          rw [hte] at h
          obtain ⟨xs, m', _, _, hl, hxl, hf⟩ := DataW.trod_array (hT.arr t ti m e ht hk) hx
          rw [cellsOf_sz hT ht] at hl
          have := shF_got (w := w) hT (S := ShC T n) hl _ 0 h.1 (Nat.zero_le _) fun p hp tf htf => by
            obtain ⟨i, hi, rfl⟩ := List.mem_map.1 hp
            simp only at htf ⊢
            rw [hte] at htf
            cases htf
            have hi' : i < m := by simpa using hi
            have h2 := hf i hi'
            rw [List.getElem?_eq_getElem (by omega), cellsOf_sz hT hte] at h2
            exact ih e m' _ _ h.2 h2
          simp only [hte]
          exact this
      | slice e =>
        rw [hk] at h
        simp only [Bool.and_eq_true] at h
        cases hte : T e with
        | none => rw [hte] at h; exact absurd h.1 (by simp)
        | some te =>
          rw [hte] at h
          have hsz : 0 < te.sz := by simpa using h.1
          simp only [hte]
          rcases DataW.trod_slice (hT.slice t ti e ht hk).1 hx with ⟨rfl, _⟩ | ⟨a, len, cap, elems, rest, m, _, rfl, _, _, hlc, hm, hel, hE, _, _⟩
          · have hz : ∀ cs : Cells, cs.len = 0 → RepL (see none1 w) true [.ro cs] [.slice none 0 0] := fun cs h0 => .cons (.ro0 _ _ _ _ h0) .nil
            split
            · rename_i k _
              exact ⟨_, ⟨.ints k [], rfl, Nat.zero_le _, [], rfl, fun x hx => by simp at hx⟩, hz _ rfl, rfl⟩
            · exact ⟨_, ⟨.rows te.sz [], rfl, Nat.zero_le _, [], rfl, fun x hx => by simp at hx⟩, hz _ rfl, rfl⟩
          · have each : ∀ i, ∃ ps csi, i < len → ShC T n e ps ∧ RepL (see none1 w) true ps csi ∧ ps.all PV.one = true ∧ csi.length = te.sz ∧ ∀ j, j < te.sz → w.cell? ((a.add (i * te.sz)).add j) = csi[j]? := fun i => by
              by_cases hi : i < len
              · have h2 := hE i hi
                rw [List.getElem?_eq_getElem (by omega), cellsOf_sz hT hte, Option.bind_eq_some_iff] at h2
                obtain ⟨csi, h3, h4⟩ := h2
                obtain ⟨_, h5, h6⟩ := World.cells?_some h3
                obtain ⟨ps, k1, k2, k3⟩ := ih e m csi _ h.2 h4
                exact ⟨ps, csi, fun _ => ⟨k1, k2, k3, h5, h6⟩⟩
              · exact ⟨[], [], fun h => absurd h hi⟩
            let g : Nat → List PV := fun i => Classical.choose (each i)
            have hg : ∀ i, i < len → ShC T n e (g i) ∧ ∃ csi, RepL (see none1 w) true (g i) csi ∧ (g i).all PV.one = true ∧ csi.length = te.sz ∧ ∀ j, j < te.sz → w.cell? ((a.add (i * te.sz)).add j) = csi[j]? := fun i hi => by
              obtain ⟨csi, hc⟩ := Classical.choose_spec (each i)
              obtain ⟨h1, h2⟩ := hc hi
              exact ⟨h1, csi, h2⟩
            have hcell : ∀ i j, i < len → j < te.sz → ∃ v, w.cell? ((a.add (i * te.sz)).add j) = some v ∧ Rep (see none1 w) true ((g i).getD j .any) v ∧ v.oneCell' = true := fun i j hi hj => by
              obtain ⟨_, csi, h1, h2, h3, h4⟩ := hg i hi
              have hlt : j < csi.length := by omega
              have hlg : j < (g i).length := by have := h1.1; omega
              have hr := h1.2 j _ _ (List.getElem?_eq_getElem hlg) (List.getElem?_eq_getElem hlt)
              refine ⟨csi[j], by rw [h4 j hj, List.getElem?_eq_getElem hlt], by rw [List.getD_eq_getElem?_getD, List.getElem?_eq_getElem hlg]; exact hr, one_rep (List.all_eq_true.1 h2 _ (List.getElem_mem hlg)) hr⟩
            have made : ∀ cs : Cells, cs.len = len → cs.w = te.sz → (∀ i j, i < len → j < te.sz → cs.get i j = (g i).getD j .any) → RepL (see none1 w) true [.ro cs] [.slice (some a) len cap] := fun cs hcl hcw hcg => by
              refine .cons ?_ .nil
              by_cases h0 : len = 0
              · subst h0
                exact .ro0 _ _ _ _ hcl
              · obtain ⟨b, off, spot⟩ := a
                obtain ⟨v0, hv0, _⟩ := hcell 0 0 (by omega) hsz
                have hspot : spot = none := by
                  have := World.cell?_spot hv0
                  rw [Nat.zero_mul] at this
                  cases spot with
                  | none => rfl
                  | some s => simp [Addr.add] at this
                subst hspot
                have hadd : ∀ i j, (Addr.add (Addr.add ⟨b, off, none⟩ (i * te.sz)) j) = ⟨b, off + (i * te.sz + j), none⟩ := fun i j => by rw [Addr.add_lit, Addr.add_lit, Nat.add_assoc]
                have hlt : b < w.heap.size := by
                  rcases Nat.lt_or_ge b w.heap.size with h | h
                  · exact h
                  · rw [hadd] at hv0
                    simp [World.cell?, Array.getElem?_eq_none h] at hv0
                have := ro_mk (c := see none1 w) (q := true) (cs := cs) (b := b) (off := off) (cp := cap) (fun i j hi hj => ?_) (fun h => h) hlt (by omega) (by omega)
                · rwa [hcl] at this
                · rw [hcl] at hi
                  rw [hcw] at hj
                  obtain ⟨v, h1, h2, h3⟩ := hcell i j hi hj
                  rw [hadd] at h1
                  exact ⟨v, by rw [hcw]; exact h1, by rw [hcg i j hi hj]; exact h2, h3⟩
            split
            · rename_i k hek
              have hz : ∀ i, i < len → ∃ z, g i = [.int k z] ∧ (Lit.int k z).wf = true := fun i hi => by
                have h1 := (hg i hi).1
                cases n with
                | zero => exact h1.elim
                | succ n =>
                  unfold ShC at h1
                  rw [hte] at h1
                  simp only [hek] at h1
                  exact h1
              let zf : Nat → Int := fun i => match g i with | [.int _ z] => z | _ => 0
              have hzf : ∀ i, i < len → g i = [.int k (zf i)] ∧ (Lit.int k (zf i)).wf = true := fun i hi => by
                obtain ⟨z, h1, h2⟩ := hz i hi
                have : zf i = z := by show (match g i with | [.int _ z] => z | _ => 0) = z; rw [h1]
                rw [this]
                exact ⟨h1, h2⟩
              refine ⟨_, ⟨.ints k ((List.range len).map zf), rfl, by simp [Cells.len]; omega, _, rfl, fun x hx => ?_⟩, made _ (by simp [Cells.len]) (hT.int e te k hte hek).2.symm fun i j hi hj => ?_, rfl⟩
              · obtain ⟨i, hi, rfl⟩ := List.mem_map.1 hx
                exact (hzf i (by simpa using hi)).2
              · have : j = 0 := by have := (hT.int e te k hte hek).2; omega
                subst this
                rw [(hzf i hi).1]
                simp [Cells.get, hi]
            · refine ⟨_, ⟨.rows te.sz ((List.range len).map g), rfl, by simp [Cells.len]; omega, _, rfl, fun r hr => ?_⟩, made _ (by simp [Cells.len]) rfl fun i j hi hj => ?_, rfl⟩
              · obtain ⟨i, hi, rfl⟩ := List.mem_map.1 hr
                exact (hg i (by simpa using hi)).1
              · simp [Cells.get, hi]

theorem open_one (hT : TyOk P T) {n : Nat} {t : TypeId} {ti : TI} (ht : T t = some ti) (hk : ti.k.agg = false) (hok : okT T n t = true) {r : Reach} {b0 : Nat} {v : Value} {d : DataW H} {ps : List MemPlace} (hval : Value.okWide P w r b0 t v) (hd : DataW.Trod enc P w 0 sp held t v d ps) :
    ∃ p, ShC T n t [p] ∧ Rep (see none1 w) true p v := by
  obtain ⟨fuel, hf⟩ := hd
  obtain ⟨qs, h1, h2, _⟩ := open_cells hT n t fuel _ _ hok hf
  have hone : v.cells.toList.length = 1 → v.cells = #[v] → ∃ p, ShC T n t [p] ∧ Rep (see none1 w) true p v := fun hl hc => by
    rw [hc] at h2
    match qs, h2.1 with
    | [p], _ => exact ⟨p, h1, h2.2 0 p v rfl rfl⟩
  cases v with
  | agg cs =>
    exfalso
    cases n with
    | zero => cases hok
    | succ n =>
      unfold ShC at h1
      rw [ht] at h1
      cases hk' : ti.k with
      | int k => unfold Value.okWide Cell.okWide Cell.ok at hval; rw [(hT.int t ti k ht hk').1] at hval; simp at hval
      | bool => unfold Value.okWide Cell.okWide Cell.ok at hval; rw [(hT.bool t ti ht hk').1] at hval; simp at hval
      | str => unfold Value.okWide Cell.okWide Cell.ok at hval; rw [(hT.str t ti ht hk').1] at hval; simp at hval
      | slice e => unfold Value.okWide Cell.okWide Cell.ok at hval; rw [(hT.slice t ti e ht hk').1] at hval; simp at hval
      | struct fs => rw [hk'] at hk; cases hk
      | arr m e => rw [hk'] at hk; cases hk
      | other => simp only [hk'] at h1
  | _ => exact hone rfl rfl
theorem open_agg (hT : TyOk P T) {n : Nat} {t : TypeId} {ti : TI} (ht : T t = some ti) (hk : ti.k.agg = true) (hok : okT T n t = true) {r : Reach} {b0 : Nat} {v : Value} {d : DataW H} {ps : List MemPlace} (hval : Value.okWide P w r b0 t v) (hd : DataW.Trod enc P w 0 sp held t v d ps) :
    ∃ qs, ShC T n t qs ∧ Rep (see none1 w) true (.agg qs) v := by
  obtain ⟨fuel, hf⟩ := hd
  obtain ⟨qs, h1, h2, _⟩ := open_cells hT n t fuel _ _ hok hf
  have : ∃ cs, v = .agg cs := by
    unfold Value.okWide at hval
    cases hk' : ti.k with
    | struct fs =>
      obtain ⟨F, hF, _⟩ := hT.struct t ti fs ht hk'
      rw [hF] at hval
      obtain ⟨cs, h, _⟩ := hval
      exact ⟨cs, h⟩
    | arr m e =>
      rw [hT.arr t ti m e ht hk'] at hval
      obtain ⟨cs, h, _⟩ := hval
      exact ⟨cs, h⟩
    | _ => rw [hk'] at hk; cases hk
  obtain ⟨cs, rfl⟩ := this
  exact ⟨qs, h1, .agg _ _ _ (by simpa [Value.cells] using h2.1) fun i p u hp hu => h2.2 i p u hp (by simpa [Value.cells] using hu)⟩
end
end Go.Pv
