import Derived.Test.YtgheplondkoedaaPvk
namespace Go.Pv
set_option linter.unusedVariables false
set_option linter.unusedSimpArgs false
open Go Go.RowKit
variable {P : Program} {T : Ty} {o : Oper} {a : Act} {c : Cx} {B n : Nat} {tm : Nat → PV} {K : PV → Eff → Prop}

theorem oidx_ok {ρ : TypeId → Operand → PV} (hρ : ∀ t x, Rep c false (ρ t x) (a.eval x)) {x : Option Operand} {K : Option Int → Prop} (h : oidx ρ x K) : (x = none ∧ K none) ∨ ∃ k i y, x = some y ∧ a.eval y = .int k i ∧ K (some i) := by
  cases x with
  | none => exact .inl ⟨rfl, h⟩
  | some y =>
    obtain ⟨k, i, h1, h2⟩ := idx_ok (hρ 0 y) h
    exact .inr ⟨k, i, y, rfl, h1, h2⟩

theorem does_sl (hT : TyOk P T) (hok : HeapOk c B) {ρ : TypeId → Operand → PV} (hρ : ∀ t x, Rep c false (ρ t x) (a.eval x)) {t e : TypeId} {x : Operand} {lo hi : Option Operand} (hop : o.op = .slice t x lo hi none) {tt te : TI} (ht : T t = some tt) (hk : tt.k = .slice e) (hte : T e = some te) {p : PV} (hx : Rep c false p (a.eval x))
    (h : oidx ρ lo fun l => oidx ρ hi fun h => slP c.H te l h p fun v => K v []) : Does P o a c B K := by
  have h2 : ∃ l h', (lo = none ∧ l = none ∨ ∃ k i y, lo = some y ∧ a.eval y = .int k i ∧ l = some i) ∧ (hi = none ∧ h' = none ∨ ∃ k i y, hi = some y ∧ a.eval y = .int k i ∧ h' = some i) ∧ slP c.H te l h' p fun v => K v [] := by
    rcases oidx_ok hρ h with ⟨h1, h2⟩ | ⟨k, i, y, h1, h2, h3⟩
    · rcases oidx_ok hρ h2 with ⟨h4, h5⟩ | ⟨k', i', y', h4, h5, h6⟩
      · exact ⟨_, _, .inl ⟨h1, rfl⟩, .inl ⟨h4, rfl⟩, h5⟩
      · exact ⟨_, _, .inl ⟨h1, rfl⟩, .inr ⟨k', i', y', h4, h5, rfl⟩, h6⟩
    · rcases oidx_ok hρ h3 with ⟨h4, h5⟩ | ⟨k', i', y', h4, h5, h6⟩
      · exact ⟨_, _, .inr ⟨k, i, y, h1, h2, rfl⟩, .inl ⟨h4, rfl⟩, h5⟩
      · exact ⟨_, _, .inr ⟨k, i, y, h1, h2, rfl⟩, .inr ⟨k', i', y', h4, h5, rfl⟩, h6⟩
  clear h
  obtain ⟨l, h', hl, hh, h⟩ := h2
  have hlo : ∃ k1, (lo.map a.eval = none ∧ l.getD 0 = 0) ∨ lo.map a.eval = some (.int k1 (l.getD 0)) := by
    rcases hl with ⟨rfl, rfl⟩ | ⟨k, i, y, rfl, h1, rfl⟩
    · exact ⟨.i64, .inl ⟨rfl, rfl⟩⟩
    · exact ⟨k, .inr (by simp [h1])⟩
  have hhi : ∀ m : Nat, (∃ A cp, a.eval x = .slice A m cp) → ∃ k2, (∃ m : Nat, hi.map a.eval = none ∧ h'.getD m = m ∧ ∃ A cp, a.eval x = .slice A m cp) ∨ hi.map a.eval = some (.int k2 (h'.getD m)) := fun m hm => by
    rcases hh with ⟨rfl, rfl⟩ | ⟨k, i, y, rfl, h1, rfl⟩
    · exact ⟨.i64, .inl ⟨m, rfl, rfl, hm⟩⟩
    · exact ⟨k, .inr (by simp [h1])⟩
  obtain ⟨k1, hlo⟩ := hlo
  cases p <;> try (exact h.elim)
  case ro cs =>
    obtain ⟨h0, h1, h2, hw, hK⟩ := h
    have hshape : ∃ A cp, a.eval x = .slice A cs.len cp ∧ cs.len ≤ cp := by
      rcases ro_at hx with ⟨h3, A, cp, h4⟩ | ⟨b, off, cp, h4, h5, _⟩
      · exact ⟨A, cp, by rw [h3]; exact h4, by omega⟩
      · exact ⟨_, cp, h4, h5⟩
    obtain ⟨k2, hhi⟩ := hhi cs.len (let ⟨A, cp, h, _⟩ := hshape; ⟨A, cp, h⟩)
    refine does_slice (k2 := k2) (l := l.getD 0) (h := h'.getD cs.len) hT hok hop ht hk hte hx hlo ?_ h0 h1 hshape h2 hK fun A cp hv hcp => ?_
    · rcases hhi with ⟨m', h3, h4, h5⟩ | h3
      · refine .inl ⟨cs.len, h3, ?_, let ⟨A, cp, h, _⟩ := hshape; ⟨A, cp, h⟩⟩
        rcases hh with ⟨rfl, rfl⟩ | ⟨k, i, y, rfl, h6, rfl⟩
        · rfl
        · simp at h3
      · exact .inr h3
    · by_cases he : (h'.getD cs.len).toNat - (l.getD 0).toNat = 0
      · rw [he]
        exact .ro0 false _ _ _ (sub_len cs _ 0 (by omega))
      · rcases ro_at hx with ⟨h3, A', cp', h4⟩ | ⟨b, off, cp', h4, h5, hat, hb, hlt⟩
        · omega
        · rw [hv] at h4
          cases h4
          rw [if_neg (by omega)]
          have := ro_of_at c (cp := cp - (l.getD 0).toNat) hat hb hlt false (l.getD 0).toNat ((h'.getD cs.len).toNat - (l.getD 0).toNat) (by omega) (by omega) (by omega)
          rw [hw] at this
          simpa [Addr.add_lit] using this
  case nil cs =>
    obtain ⟨h0, h1, hK⟩ := h
    have hshape : ∃ A, a.eval x = .slice A 0 0 := by
      generalize a.eval x = v at hx
      cases hx
      exact ⟨_, rfl⟩
    obtain ⟨A, hv0⟩ := hshape
    obtain ⟨k2, hhi⟩ := hhi 0 ⟨A, 0, hv0⟩
    refine does_slice (k2 := k2) (l := l.getD 0) (h := h'.getD 0) (m := 0) (q := .nil cs) hT hok hop ht hk hte hx hlo ?_ (by omega) (by omega) ⟨A, 0, hv0, Nat.le_refl 0⟩ (by omega) hK fun A' cp hv hcp => ?_
    · rcases hhi with ⟨m', h3, h4, h5⟩ | h3
      · exact .inl ⟨0, h3, by rw [h1]; rfl, A, 0, hv0⟩
      · exact .inr h3
    · rw [hv0] at hv
      cases hv
      rw [h0, h1]
      have hcs : cs.len = 0 := by
        rw [hv0] at hx
        cases hx
        assumption
      exact .nil false cs _ hcs
  case sl id off m tot =>
    unfold slP at h
    dsimp only at h
    split at h
    · rename_i b hb
      obtain ⟨hbl, hw, h0, h1, h2, hK⟩ := h
      have hx' := hx
      cases hx' with
      | sl _ _ _ _ _ ha hs hkk =>
        obtain ⟨hbox, htot, hsl⟩ := hkk b hb
        obtain ⟨hle, _, _⟩ := hsl hbl
        obtain ⟨k2, hhi⟩ := hhi m (let ⟨A, cp, h, _⟩ := hs; ⟨A, cp, h⟩)
        refine does_slice (k2 := k2) (l := l.getD 0) (h := h'.getD m) hT hok hop ht hk hte hx hlo ?_ h0 h1 hs h2 hK fun A cp hv hcp => ?_
        · rcases hhi with ⟨m', h3, h4, h5⟩ | h3
          · refine .inl ⟨m, h3, ?_, let ⟨A, cp, h, _⟩ := hs; ⟨A, cp, h⟩⟩
            rcases hh with ⟨rfl, rfl⟩ | ⟨k, i, y, rfl, h6, rfl⟩
            · rfl
            · simp at h3
          · exact .inr h3
        · have hcp2 : (h'.getD m).toNat - (l.getD 0).toNat ≤ cp - (l.getD 0).toNat := by omega
          refine .sl id _ _ _ _ ha ⟨_, _, rfl, hcp2⟩ fun b2 hb2 => ?_
          rw [hb] at hb2
          cases hb2
          refine ⟨hbox, htot, fun _ => ⟨by omega, fun hwh => ?_, fun hnw => ?_⟩⟩
          · have hl0 : l.getD 0 = 0 := by omega
            have hhm : (h'.getD m).toNat = m := by omega
            have hoff : off = 0 := by omega
            have hmt : m = tot := by omega
            have hvv := (hsl hbl).2.1 ⟨hoff, hmt⟩
            rw [hl0, hhm]
            have e : Value.slice (if cp = (0 : Int).toNat then A else A.map (·.add ((0 : Int).toNat * te.sz))) (m - (0 : Int).toNat) (cp - (0 : Int).toNat) = a.eval x := by
              rw [hv]
              cases A <;> simp [Addr.add]
            rw [e]
            exact hvv
          · by_cases he : (h'.getD m).toNat - (l.getD 0).toNat = 0
            · exact .inl he
            · obtain ⟨g, cp', hg, hv', _⟩ := sl_own hok hx hb hbl (by omega)
              rw [hv] at hv'
              cases hv'
              refine .inr ⟨g, cp - (l.getD 0).toNat, hg, ?_⟩
              rw [if_neg (by omega)]
              simp only [Option.map_some, Addr.add_lit]
              rw [Nat.add_mul, hw]
    · exact h.elim
end Go.Pv
