import Derived.Test.YtgheplondkoedaaPvf
namespace Go.Pv
set_option linter.unusedVariables false
set_option linter.unusedSimpArgs false
open Go Go.RowKit
variable {P : Program} {T : Ty} {o : Oper} {a : Act} {c : Cx} {B n : Nat} {tm : Nat → PV} {K : PV → Eff → Prop}

/-- What a pointer of the call's own points to. -/
theorem rop_at {q : Bool} {cs : Cells} {i j : Nat} {v : Value} (hr : Rep c q (.rop cs i j) v) : ∃ b off, v = .pointer (some ⟨b, off + (i * cs.w + j), none⟩) ∧ At c true cs b off ∧ ¬ c.ow b ∧ b < c.w.heap.size := by
  cases hr with
  | rop _ _ _ _ b off f h1 h2 h3 h4 => exact ⟨b, off, rfl, fun i j hi hj => ⟨f i j, (h3 i j hi hj).1, h4 i j hi hj, (h3 i j hi hj).2⟩, h1, h2⟩
theorem ro_at {q : Bool} {cs : Cells} {v : Value} (hr : Rep c q (.ro cs) v) : (cs.len = 0 ∧ ∃ A cp, v = .slice A 0 cp) ∨ ∃ b off cp, v = .slice (some ⟨b, off, none⟩) cs.len cp ∧ cs.len ≤ cp ∧ At c true cs b off ∧ ¬ c.ow b ∧ b < c.w.heap.size := by
  cases hr with
  | ro0 _ _ A cp h => exact .inl ⟨h, A, cp, rfl⟩
  | ro _ _ b off cp f h0 h1 h2 h3 h4 h5 => exact .inr ⟨b, off, cp, rfl, h1, fun i j hi hj => ⟨f i j, (h4 i j hi hj).1, h5 i j hi hj, (h4 i j hi hj).2⟩, h2, h3⟩

theorem does_load (hT : TyOk P T) (hok : HeapOk c B) {t : TypeId} {x : Operand} (hop : o.op = .load t x) {p : PV} (hx : Rep c false p (a.eval x)) {ti : TI} (ht : T t = some ti)
    (h : ldP ti c.H p fun v => K v []) : Does P o a c B K := by
  have hex : execOp a.eval o = (do pure (.value (← Instr.loadAt t (a.eval x)))) := by simp only [execOp, hop]
  cases p <;> try (exact h.elim)
  case ptr id i j tot =>
    unfold ldP at h
    dsimp only at h
    split at h
    · rename_i b hb
      obtain ⟨hl, h⟩ := h
      obtain ⟨g, hg, hv, hat⟩ := ptr_own hok hx hb hl
      obtain ⟨v, pv, hr, hrep, hk⟩ := load_at hT ht hat h
      rw [Nat.zero_add] at hr
      exact does_sem hex (by rw [hv]; exact hr) hrep hk hok
    · exact h.elim
  case rop cs i j =>
    obtain ⟨b, off, hv, hat, _, _⟩ := rop_at hx
    obtain ⟨v, pv, hr, hrep, hk⟩ := load_at (K := fun v => K v []) hT ht hat h
    exact does_sem hex (by rw [hv]; exact hr) hrep.loose hk hok

theorem field_run (hT : TyOk P T) {t : TypeId} {ti : TI} {fs : List (TypeId × Nat)} (ht : T t = some ti) (hk : ti.k = .struct fs) {f ft off : Nat} (hf : fs[f]? = some (ft, off)) {tf : TI} (htf : T ft = some tf) (h0 : 0 < tf.sz) (b q : Nat) (w : World) :
    (Instr.fieldAt t (.pointer (some ⟨b, q, none⟩)) f).run P w = .ok (.pointer (some ⟨b, q + off, none⟩)) w := by
  obtain ⟨F, hF, hm, _⟩ := hT.struct t ti fs ht hk
  have : ∃ fd, F[f]? = some fd ∧ fd.type = ft ∧ fd.offset = off := by
    rw [← hm, List.getElem?_map] at hf
    cases hq : F.toList[f]? with
    | none => rw [hq] at hf; cases hf
    | some fd => rw [hq] at hf; simp at hf; exact ⟨fd, by simpa using hq, hf.1, hf.2⟩
  obtain ⟨fd, h1, h2, h3⟩ := this
  subst h2
  subst h3
  have hs := sizeOf_run hT htf w
  have hz : tf.sz ≠ 0 := by omega
  simp [Instr.fieldAt, run_underlying hF, h1, Instr.sureAddr, fieldPlace, hs, hz, Addr.add_lit]

theorem does_field (hT : TyOk P T) (hok : HeapOk c B) {t : TypeId} {x : Operand} {f : Nat} (hop : o.op = .fieldAddr t x f) {p : PV} (hx : Rep c false p (a.eval x)) {ti : TI} (ht : T t = some ti) {fs : List (TypeId × Nat)} (hk : ti.k = .struct fs) {ft off : Nat} (hf : fs[f]? = some (ft, off))
    {tf : TI} (htf : T ft = some tf) (h0 : 0 < tf.sz)
    (h : fldP c.H off p fun v => K v []) : Does P o a c B K := by
  have hex : execOp a.eval o = (do pure (.value (← Instr.fieldAt t (a.eval x) f))) := by simp only [execOp, hop]
  cases p <;> try (exact h.elim)
  case ptr id i j tot =>
    obtain ⟨hb, h⟩ := h
    unfold live at hb
    split at hb
    · rename_i b hb'
      obtain ⟨g, hg, hv, hat⟩ := ptr_own hok hx hb' hb
      refine does_sem hex (by rw [hv]; exact field_run hT ht hk hf htf h0 g _ c.w) ?_ h hok
      cases hx with
      | ptr _ _ _ _ _ ha hs hkk =>
        refine .ptr _ _ _ _ _ ha ⟨_, rfl⟩ fun b2 hb2 => ⟨(hkk b2 hb2).1, fun e => ?_⟩
        rw [hb'] at hb2
        cases hb2
        exact ⟨g, hg, by rw [Nat.add_assoc]⟩
    · exact hb.elim
  case rop cs i j =>
    obtain ⟨b, off', hv, hat, h1, h2⟩ := rop_at hx
    refine does_sem hex (by rw [hv]; exact field_run hT ht hk hf htf h0 b _ c.w) ?_ h hok
    have := rop_mk hat h1 h2 i (j + off) false
    rwa [← Nat.add_assoc (i * cs.w), ← Nat.add_assoc off'] at this

theorem idx_ok {p : PV} {v : Value} {K : Int → Prop} (hp : Rep c false p v) (h : idx p K) : ∃ k i, v = .int k i ∧ K i := by
  unfold idx at h
  split at h
  · cases hp; exact ⟨_, _, rfl, h⟩
  · exact h.elim

/-- A slice of the call's own: its address. -/
theorem sl_own (hok : HeapOk c B) {id off n tot : Nat} {v : Value} {b : Blk} (hr : Rep c false (.sl id off n tot) v) (hb : c.H id = some b) (hl : b.cs.len = tot) (h0 : 0 < n) :
    ∃ g cp, blkOf (c.loc id) = some g ∧ v = .slice (some ⟨g, off * b.cs.w, none⟩) n cp ∧ At c true b.cs g 0 ∧ off + n ≤ tot ∧ n ≤ cp ∧ b.box = false := by
  cases hr with
  | sl _ _ _ _ _ ha hs hk =>
    obtain ⟨hbox, _, hsl⟩ := hk b hb
    obtain ⟨hle, hwh, hpt⟩ := hsl hl
    obtain ⟨A, cp, hv, hcp⟩ := hs
    have hbk := (hok.ok id b hb).2
    unfold BlkOk at hbk
    rw [hbox] at hbk
    obtain ⟨vs, ho, hrr⟩ := hbk
    by_cases hw : off = 0 ∧ n = tot
    · rcases hwh hw with h | ⟨h, A', h'⟩
      · rcases ho.2 with ⟨hV, hz⟩ | ⟨g, cap, cur, hV, _⟩
        · omega
        · obtain ⟨rfl, rfl⟩ := hw
          have hg : blkOf (c.loc id) = some g := by rw [hV]; rfl
          refine ⟨g, cap, hg, ?_, hrr.at_ (w := c.w) (row_cells ho hg), by omega, ?_, hbox⟩
          · rw [h, hV, hl, Nat.zero_mul]
          · rw [h, hV] at hv
            cases hv
            exact hcp
      · rw [h'] at hv
        cases hv
        omega
    · rcases hpt hw with h | ⟨g, cp', hg, h⟩
      · omega
      · refine ⟨g, cp', hg, h, hrr.at_ (w := c.w) (row_cells ho hg), hle, ?_, hbox⟩
        rw [h] at hv
        cases hv
        exact hcp

theorem index_run (hT : TyOk P T) {t e : TypeId} {ti te : TI} (ht : T t = some ti) (hk : ti.k = .slice e) (hte : T e = some te) (b q n cp : Nat) (k : IntKind) (i : Int) (h0 : 0 ≤ i) (h1 : i < n) (w : World) :
    (Instr.indexAt t (.slice (some ⟨b, q, none⟩) n cp) (.int k i)).run P w = .ok (.pointer (some ⟨b, q + i.toNat * te.sz, none⟩)) w := by
  have hu := (hT.slice t ti e ht hk).1
  simp [Instr.indexAt, asIntOf, run_underlying hu, h0, h1, sizeOf_run hT hte, Addr.add_lit]

theorem indexArr_run (hT : TyOk P T) {t e m : TypeId} {ti te : TI} (ht : T t = some ti) (hk : ti.k = .arr m e) (hte : T e = some te) (b q : Nat) (k : IntKind) (i : Int) (h0 : 0 ≤ i) (h1 : i < m) (w : World) :
    (Instr.indexAt t (.pointer (some ⟨b, q, none⟩)) (.int k i)).run P w = .ok (.pointer (some ⟨b, q + i.toNat * te.sz, none⟩)) w := by
  have hu := hT.arr t ti m e ht hk
  simp [Instr.indexAt, asIntOf, run_underlying hu, h0, h1, sizeOf_run hT hte, Addr.add_lit, Instr.sureAddr]

theorem does_indexSl (hT : TyOk P T) (hok : HeapOk c B) {t : TypeId} {x ix : Operand} (hop : o.op = .indexAddr t x ix) {p pi : PV} (hx : Rep c false p (a.eval x)) (hi : Rep c false pi (a.eval ix)) {ti te : TI} {e : TypeId} (ht : T t = some ti) (hk : ti.k = .slice e) (hte : T e = some te)
    (h : idx pi fun i => ixS c.H te i p fun v => K v []) : Does P o a c B K := by
  have hex : execOp a.eval o = (do pure (.value (← Instr.indexAt t (a.eval x) (a.eval ix)))) := by simp only [execOp, hop]
  obtain ⟨k, i, hiv, h2⟩ := idx_ok hi h
  clear h
  have h := h2
  clear h2
  rw [hiv] at hex
  cases p <;> try (exact h.elim)
  case ro cs =>
    obtain ⟨h0, h1, hw, h⟩ := h
    rcases ro_at hx with ⟨hz, _⟩ | ⟨b, off, cp, hv, hcp, hat, hb, hlt⟩
    · omega
    · rw [hv] at hex
      refine does_sem hex (index_run hT ht hk hte b off cs.len cp k i h0 h1 c.w) ?_ h hok
      have := rop_mk hat hb hlt i.toNat 0 false
      rwa [Nat.add_zero, hw] at this
  case sl id off m tot =>
    unfold ixS at h
    dsimp only at h
    split at h
    · rename_i b hb
      obtain ⟨hl, hw, h0, h1, h⟩ := h
      obtain ⟨g, cp, hg, hv, hat, hle, hcp, hbox⟩ := sl_own hok hx hb hl (by omega)
      rw [hv] at hex
      refine does_sem hex (index_run hT ht hk hte g _ m cp k i h0 h1 c.w) ?_ h hok
      cases hx with
      | sl _ _ _ _ _ ha hs hkk =>
        refine .ptr _ _ _ _ _ ha ⟨_, rfl⟩ fun b2 hb2 => ⟨(hkk b2 hb2).2.1, fun e' => ?_⟩
        rw [hb] at hb2
        cases hb2
        exact ⟨g, hg, by rw [Nat.add_zero, ← hw, Nat.add_mul]⟩
    · exact h.elim
  case asl id j m =>
    unfold ixS at h
    dsimp only at h
    split at h
    · rename_i b hb
      obtain ⟨hl, h0, h1, h⟩ := h
      cases hx with
      | asl _ _ _ _ ha hs hkk =>
        obtain ⟨hbox, _, hg⟩ := hkk b hb
        obtain ⟨g, cp, hg, hv⟩ := hg hl
        rw [hv] at hex
        refine does_sem hex (index_run hT ht hk hte g j m cp k i h0 h1 c.w) ?_ h hok
        refine .ptr _ _ _ _ _ ha ⟨_, rfl⟩ fun b2 hb2 => ⟨(hkk b2 hb2).2.1, fun e' => ?_⟩
        rw [hb] at hb2
        cases hb2
        exact ⟨g, hg, by simp⟩
    · exact h.elim

theorem does_indexArr (hT : TyOk P T) (hok : HeapOk c B) {t : TypeId} {x ix : Operand} (hop : o.op = .indexAddr t x ix) {p pi : PV} (hx : Rep c false p (a.eval x)) (hi : Rep c false pi (a.eval ix)) {ti te : TI} {m e : TypeId} (ht : T t = some ti) (hk : ti.k = .arr m e) (hte : T e = some te)
    (h : idx pi fun i => ixA c.H m te i p fun v => K v []) : Does P o a c B K := by
  have hex : execOp a.eval o = (do pure (.value (← Instr.indexAt t (a.eval x) (a.eval ix)))) := by simp only [execOp, hop]
  obtain ⟨k, i, hiv, h2⟩ := idx_ok hi h
  clear h
  have h := h2
  clear h2
  rw [hiv] at hex
  cases p <;> try (exact h.elim)
  case ptr id q j tot =>
    obtain ⟨hb, h0, h1, h⟩ := h
    unfold live at hb
    split at hb
    · rename_i b hb'
      obtain ⟨g, hg, hv, hat⟩ := ptr_own hok hx hb' hb
      rw [hv] at hex
      refine does_sem hex (indexArr_run hT ht hk hte g _ k i h0 h1 c.w) ?_ h hok
      cases hx with
      | ptr _ _ _ _ _ ha hs hkk =>
        refine .ptr _ _ _ _ _ ha ⟨_, rfl⟩ fun b2 hb2 => ⟨(hkk b2 hb2).1, fun e' => ?_⟩
        rw [hb'] at hb2
        cases hb2
        exact ⟨g, hg, by rw [Nat.add_assoc]⟩
    · exact hb.elim
  case rop cs q j =>
    obtain ⟨h0, h1, h⟩ := h
    obtain ⟨b, off', hv, hat, hb, hlt⟩ := rop_at hx
    rw [hv] at hex
    refine does_sem hex (indexArr_run hT ht hk hte b _ k i h0 h1 c.w) ?_ h hok
    have := rop_mk hat hb hlt q (j + i.toNat * te.sz) false
    rwa [← Nat.add_assoc (q * cs.w), ← Nat.add_assoc off'] at this
end Go.Pv
