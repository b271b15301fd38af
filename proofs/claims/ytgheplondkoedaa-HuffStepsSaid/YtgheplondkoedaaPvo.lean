import Derived.Test.YtgheplondkoedaaPvn
namespace Go.Pv
set_option linter.unusedVariables false
set_option linter.unusedSimpArgs false
open Go Go.RowKit
variable {P : Program} {T : Ty} {o : Oper} {a : Act} {c : Cx} {B n : Nat} {tm : Nat → PV} {K : PV → Eff → Prop}

theorem zp_len : ∀ (z z' : List PV), zp z = some z' → z'.length = z.length
  | [], z', h => by simp [zp] at h; subst h; rfl
  | p :: r, z', h => by
    unfold zp at h
    split at h <;> first | (cases h; done) | skip
    all_goals (rename_i hr; cases h; simp [zp_len r _ hr])
theorem zp_ok : ∀ (z z' : List PV) (us : List Value), zp z = some z' → RepL c false z us → RepL c true z' us
  | [], z', us, h, hr => by
    simp [zp] at h; subst h
    have : us = [] := by have := hr.1; simpa using this.symm
    subst this
    exact .nil
  | p :: r, z', us, h, hr => by
    obtain ⟨u, us, rfl, hp, hr'⟩ := hr.uncons
    unfold zp at h
    split at h <;> first | (cases h; done) | skip
    all_goals (rename_i hz; cases h)
    · exact .cons (hp.pure1 trivial) (zp_ok r _ us hz hr')
    · exact .cons (hp.pure1 trivial) (zp_ok r _ us hz hr')
    · exact .cons (hp.pure1 trivial) (zp_ok r _ us hz hr')
    · exact .cons (hp.pure1 trivial) (zp_ok r _ us hz hr')
    · exact .cons (nil_ro (hp.pure1 trivial)) (zp_ok r _ us hz hr')

theorem make_rows (hT : TyOk P T) (hok : HeapOk c B) (hn : ¬ c.A n) {t e : TypeId} {l cp : Operand} (hop : o.op = .makeSlice t l cp) {tt te : TI} (ht : T t = some tt) (hk : tt.k = .slice e) (hte : T e = some te) {k1 k2 : IntKind} {y : Int} (hl : a.eval l = .int k1 y) (hc : a.eval cp = .int k2 y)
    (h0 : 0 ≤ y) (hb1 : y * te.bytes ≤ 140737488355328) (hb2 : y ≤ 140737488355328) (hs0 : 0 < te.sz) {z z' : List PV} (hz : cellsOf te.zero = some z) (hone : z.all PV.one = true) (hz' : zp z = some z')
    (h : K (.ro (.rows te.sz (List.replicate y.toNat z'))) [] ∨ K (.sl n 0 y.toNat y.toNat) [(n, some ⟨.rows te.sz (List.replicate y.toNat z'), false, e⟩)]) : Does P o a c B K := by
  have hzl : z.length = te.sz := by
    obtain ⟨i, zv, _, _, hzs, _, _, hzr⟩ := zero_rep hT hte
    have := (cells_rep hz (hzr c false)).1
    simp at this
    omega
  have hzl' : z'.length = te.sz := by rw [← hzl]; exact zp_len z z' hz'
  refine does_make (cs := .rows te.sz (List.replicate y.toNat z')) hT hok hn hop ht hk hte hl hc h0 hb1 hb2 hs0 (by simp [Cells.len]) rfl (fun zv hzs hzr i j hi hj => ?_) h
  have hcell := cells_rep hz hzr
  have hpure := zp_ok z z' _ hz' hcell
  have hj' : j < z'.length := by omega
  have hjv : j < zv.cells.toList.length := by rw [← hpure.1]; exact hj'
  have e1 : zv.cells.toList[j]? = some zv.cells.toList[j] := List.getElem?_eq_getElem hjv
  have e2 : z'[j]? = some z'[j] := List.getElem?_eq_getElem hj'
  have e3 : z[j]? = some (z[j]'(by omega)) := List.getElem?_eq_getElem (by omega)
  refine ⟨zv.cells.toList[j], by rw [← Array.getElem?_toList]; exact e1, ?_, one_rep (List.all_eq_true.1 hone _ (List.getElem_mem _)) (hcell.2 j _ _ e3 e1)⟩
  have e4 : (Cells.rows te.sz (List.replicate y.toNat z')).get i j = z'[j] := by
    simp [Cells.get, List.getD_eq_getElem?_getD, List.getElem?_replicate, hi, e2]
  rw [e4]
  exact hpure.2 j _ _ e2 e1

theorem opv_sound (hT : TyOk P T) (hok : HeapOk c B) (hn8 : ∀ q, q < 8 → ¬ c.A (n + q)) {ρ : TypeId → Operand → PV} (hρ : ∀ t x, Rep c false (ρ t x) (a.eval x)) (h : opv P T o ρ c.H n K) : Does P o a c B K := by
  have hn : ¬ c.A n := hn8 0 (by omega)
  cases hop : o.op <;> simp only [opv, hop] at h <;> try (exact h.elim)
  case move x => exact does_val (by simp only [execOp, hop]; rfl) (hρ o.type x) h hok
  case assign x => exact does_val (by simp only [execOp, hop]; rfl) (hρ o.type x) h hok
  case pick cc x y =>
    have hc := hρ 0 cc
    split at h
    · rename_i t ht
      rw [ht] at hc
      have hv : a.eval cc = .bool t := by
        generalize a.eval cc = v at hc
        cases hc
        rfl
      cases t with
      | true => exact does_val (by simp only [execOp, hop, hv, asBool, Sem.run_bind, Sem.run_pure, Result.andThen_ok, if_true]) (hρ o.type x) (h.1 rfl) hok
      | false => exact does_val (by simp only [execOp, hop, hv, asBool, Sem.run_bind, Sem.run_pure, Result.andThen_ok, Bool.false_eq_true, if_false]) (hρ o.type y) (h.2 rfl) hok
    · exact h.elim
  case alloc e =>
    split at h
    · rename_i ti ht
      split at h
      · rename_i vs hc
        obtain ⟨i, z, hi, hz, _, _, _, hzr⟩ := zero_rep hT ht
        refine does_boxed (v := z) hok hn ?_ (hzr c false) hc h.1 h.2
        simp [execOp, hop, Instr.alloc, zeroValue, typeInfo, hi, hz, newVar, newRow]
      · exact h.elim
    · exact h.elim
  case box e x =>
    split at h
    · rename_i vs hc
      exact does_boxed (v := a.eval x) hok hn (by simp [execOp, hop, Instr.box, newVar, newRow]) (hρ e x) hc h.1 h.2
    · exact h.elim
  case build t parts =>
    split at h
    · rename_i ti ht
      split at h
      · rename_i z hz
        split at h
        · rename_i fs hk
          refine does_build hT hok hρ hop ht hz (.inl ⟨fs, hk, fun i o s t hq => ?_⟩) h
          split at hq
          · rename_i ft off hf
            split at hq
            · rename_i tf htf
              cases hq
              exact ⟨tf, hf, htf, rfl⟩
            · cases hq
          · cases hq
        · rename_i m e hk
          split at h
          · rename_i te hte
            exact does_build hT hok hρ hop ht hz (.inr ⟨m, e, te, hk, hte, fun i o s t hq => by cases hq; exact ⟨rfl, rfl⟩⟩) h
          · exact h.elim
        · exact h.elim
      · exact h.elim
    · exact h.elim
  case buildSlice t len parts =>
    split at h
    · rename_i tt ht
      split at h
      · rename_i e hk
        split at h
        · rename_i te hte
          obtain ⟨h0, h1, h2, h⟩ := h
          split at h
          · rename_i z hz
            exact does_lit hT hok hn hρ hop ht hk hte h0 h1 h2 hz h
          · exact h.elim
        · exact h.elim
      · exact h.elim
    · exact h.elim
  case load t x =>
    split at h
    · rename_i ti ht
      exact does_load hT hok hop (hρ 0 x) ht h
    · exact h.elim
  case store t x y =>
    split at h
    · rename_i ti ht
      have hx := hρ 0 x
      split at h
      · rename_i id i j tot hp
        rw [hp] at hx
        split at h
        · rename_i b hb
          obtain ⟨hl, h⟩ := h
          split at h
          · rename_i vs hc
            exact does_store hT hok hop ht hx (hρ t y) hb hl hc h.1 h.2.1 h.2.2.1 h.2.2.2
          · exact h.elim
        · exact h.elim
      · exact h.elim
    · exact h.elim
  case nilCheck x =>
    have hx := hρ 0 x
    split at h
    · rename_i id i j tot hp
      rw [hp] at hx
      obtain ⟨hl, h⟩ := h
      unfold live at hl
      split at hl
      · rename_i b hb
        obtain ⟨g, hg, hv, _⟩ := ptr_own hok hx hb hl
        exact does_val (v := a.eval x) (by simp only [execOp, hop, hv]; rfl) hx h hok
      · exact hl.elim
    · rename_i cs i j hp
      rw [hp] at hx
      obtain ⟨b, off, hv, _⟩ := rop_at hx
      exact does_val (v := a.eval x) (by simp only [execOp, hop, hv]; rfl) hx h hok
    · rename_i f caps hp
      rw [hp] at hx
      have hv : ∃ vs, a.eval x = .func (.func f) #[] vs := by
        generalize a.eval x = v at hx
        cases hx
        exact ⟨_, rfl⟩
      obtain ⟨vs, hv⟩ := hv
      exact does_val (v := a.eval x) (by simp only [execOp, hop, hv]; rfl) hx h hok
    · exact h.elim
  case binOp op t x y u =>
    obtain ⟨r, pv, h1, h2, h3⟩ := bin_ok (K := fun v => K v []) (xo := x) (yo := y) hT (hρ t x) (hρ u y) h
    exact does_sem (by simp only [execOp, hop]) h1 h2 h3 hok
  case unOp op t x =>
    have hx := hρ t x
    split at h
    · rename_i b hp
      rw [hp] at hx
      have hv : a.eval x = .bool b := by
        generalize a.eval x = v at hx
        cases hx
        rfl
      exact does_sem (s := Op.unary .not (.bool b)) (by simp only [execOp, hop, hv]) rfl (.bool ..) h hok
    · rename_i k i hp
      rw [hp] at hx
      have hv : a.eval x = .int k i := by
        generalize a.eval x = v at hx
        cases hx
        rfl
      exact does_sem (s := Op.unary .neg (.int k i)) (by simp only [execOp, hop, hv]) rfl (.int ..) h hok
    · exact h.elim
  case convert s d x =>
    have hx := hρ s x
    split at h
    · rename_i td ts hd hs
      split at h
      · rename_i k hk
        split at h
        · rename_i k' i hp
          rw [hp] at hx
          have hv : a.eval x = .int k' i := by
            generalize a.eval x = v at hx
            cases hx
            rfl
          obtain ⟨ds, hds⟩ := under_of hT hs
          have hdu := (hT.int d td k hd hk).1
          refine does_sem (s := convert s d (.int k' i)) (by simp only [execOp, hop, hv]) (v := .int k (k.wrap i)) ?_ (.int ..) h hok
          simp [convert, run_underlying hds, run_underlying hdu, Conv.intToInt]
        · exact h.elim
      · rename_i hk
        split at h
        · rename_i e hsk
          split at h
          · rename_i te hte
            exact conv_str hT hok hop hs hsk hte h.1 hd hk hx h.2
          · exact h.elim
        · exact h.elim
      · exact h.elim
    · exact h.elim
  case makeFunc fn first caps =>
    split at h
    · rename_i f
      obtain ⟨rfl, h⟩ := h
      have hl := args_ok hρ caps.toList []
      refine does_val (v := .func (.func f) #[] (caps.map a.eval)) (by simp only [execOp, hop, Array.map_empty]; rfl) (.fn false f _ _ (by have := hl.1; simpa using this) fun i q v h1 h2 => hl.2 i q v h1 (by rw [← Array.getElem?_toList] at h2; simpa using h2)) h hok
    · exact h.elim
  case makeSlice t l cp =>
    split at h
    · rename_i tt ht
      split at h
      · rename_i e hk
        split at h
        · rename_i te hte
          obtain ⟨k1, x, hl, h⟩ := idx_ok (hρ 0 l) h
          obtain ⟨k2, y, hc, h⟩ := idx_ok (hρ 0 cp) h
          obtain ⟨rfl, h0, hb1, hb2, hs0, h⟩ := h
          split at h
          · rename_i z hz
            obtain ⟨hone, h⟩ := h
            split at h
            · rename_i k k' hk' 
              obtain ⟨rfl, h⟩ := h
              have hsz := (hT.int e te _ hte hk').2
              refine does_make (cs := .ints k' (List.replicate y.toNat 0)) hT hok hn hop ht hk hte hl hc h0 hb1 hb2 hs0 (by simp [Cells.len]) hsz.symm (fun zv hzs hzr i j hi hj => ?_) h
              have hcell := cells_rep hz hzr
              obtain ⟨u, us', hus, hu, _⟩ := hcell.uncons
              have hj0 : j = 0 := by omega
              subst hj0
              refine ⟨u, by rw [← Array.getElem?_toList, hus]; rfl, ?_, one_rep rfl hu⟩
              cases hu
              simp [Cells.get, List.getD_eq_getElem?_getD, List.getElem?_replicate, hi]
              exact .int ..
            · exact h.elim
            · split at h
              · rename_i z' hz'
                exact make_rows hT hok hn hop ht hk hte hl hc h0 hb1 hb2 hs0 hz hone hz' h
              · exact h.elim
          · exact h.elim
        · exact h.elim
      · exact h.elim
    · exact h.elim
  case slice t x lo hi mx =>
    split at h
    · rename_i tt ht
      split at h
      · rename_i e hk
        split at h
        · rename_i te hte
          split at h
          · rename_i m
            obtain ⟨rfl, h1, h2, h⟩ := h
            split at h1
            · rename_i hh
              have e1 : ∀ y, ρ 0 y = .int .i64 0 → a.eval y = .int .i64 0 := fun y hy => by
                have := hρ 0 y
                rw [hy] at this
                generalize a.eval y = v at this
                cases this
                rfl
              exact does_sl0 hT hok hop ht hk hte (hρ t x) (e1 _ h1) (e1 _ h2) h
            · exact h1.elim
          · exact does_sl hT hok hρ hop ht hk hte (hρ t x) h
        · exact h.elim
      · rename_i m e hk
        obtain ⟨rfl, rfl, he, h⟩ := h
        obtain ⟨te, hte⟩ := Option.isSome_iff_exists.1 he
        exact does_slA hT hok hρ hop ht hk hte h
      · exact h.elim
    · exact h.elim
  case fieldAddr t x f =>
    split at h
    · rename_i ti ht
      split at h
      · rename_i fs hk
        split at h
        · rename_i ft off hf
          obtain ⟨h1, h⟩ := h
          split at h1
          · rename_i tf htf
            exact does_field hT hok hop (hρ 0 x) ht hk hf htf h1 h
          · exact h1.elim
        · exact h.elim
      · exact h.elim
    · exact h.elim
  case indexAddr t x ix =>
    split at h
    · rename_i ti ht
      split at h
      · rename_i e hk
        split at h
        · exact h.elim
        · rename_i te hte
          exact does_indexSl hT hok hop (hρ t x) (hρ 0 ix) ht hk hte h
      · rename_i m e hk
        split at h
        · exact h.elim
        · rename_i te hte
          exact does_indexArr hT hok hop (hρ 0 x) (hρ 0 ix) ht hk hte h
      · exact h.elim
    · exact h.elim
  case index t x ix =>
    split at h
    · rename_i ti ht
      split at h
      · rename_i m e hk
        split at h
        · rename_i te hte
          obtain ⟨k, i, hi, h⟩ := idx_ok (hρ 0 ix) h
          have hx := hρ t x
          split at h
          · rename_i cs hp
            rw [hp] at hx
            exact does_index hT hok hop ht hk hte hx hi h.1 h.2.1 h.2.2
          · exact h.elim
        · exact h.elim
      · exact h.elim
    · exact h.elim
  case extract x i =>
    have hx := hρ 0 x
    split at h
    · rename_i vs hp
      rw [hp] at hx
      split at h
      · rename_i v hv
        obtain ⟨us, hu, hr⟩ : ∃ us : Array Value, a.eval x = .tuple us ∧ RepL c false vs us.toList := by
          generalize a.eval x = w at hx
          cases hx with
          | tup _ _ us h1 h2 => exact ⟨us, rfl, repL_of h1 h2⟩
        have hlt : i < us.toList.length := by rw [← hr.1]; exact (List.getElem?_eq_some_iff.1 hv).1
        have e1 : us.toList[i]? = some us.toList[i] := List.getElem?_eq_getElem hlt
        refine does_sem (s := Instr.extract (.tuple us) i) (by simp only [execOp, hop, hu]) (v := us.toList[i]) ?_ (hr.2 i _ _ hv e1) h hok
        rw [Array.getElem?_toList] at e1
        simp only [Instr.extract, e1]
        rfl
      · exact h.elim
    · exact h.elim
  case call cl =>
    split at h
    · rename_i b hcl
      exact bltn_sound hT hok hn hρ hop hcl h
    · rename_i f hcl
      split at h
      · rename_i g caps hf
        rcases h with h | h
        · exact does_call hok hρ hop hcl hf h
        · exact does_hcall hok hn8 hρ hop hcl hf h
      · exact h.elim
    · exact h.elim
end Go.Pv
