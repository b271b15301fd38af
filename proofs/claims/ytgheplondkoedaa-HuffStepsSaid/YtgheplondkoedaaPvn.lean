import Derived.Test.YtgheplondkoedaaPvm
namespace Go.Pv
set_option linter.unusedVariables false
set_option linter.unusedSimpArgs false
open Go Go.RowKit
variable {P : Program} {T : Ty} {o : Oper} {a : Act} {c : Cx} {B n : Nat} {tm : Nat → PV} {K : PV → Eff → Prop}

theorem len_run {t : TypeId} {d : TypeDesc} (hu : P.underlying t = some d) (ty : TypeId) {v : Value} {r : Nat} (h : (∃ e A cp, d = .slice e ∧ v = .slice A r cp) ∨ (∃ s, d = .string ∧ v = .string s ∧ s.size = r)) (w : World) : (Builtin.len_ #[t] ty #[v]).run P w = .ok (.int .i64 r) w := by
  rcases h with ⟨e, A, cp, rfl, rfl⟩ | ⟨s, rfl, rfl, rfl⟩
  · simp [Builtin.len_, run_underlying hu, goInt]
  · simp [Builtin.len_, run_underlying hu, goInt]

theorem mxF_ok (mx : Bool) {k : IntKind} {K : Int → Prop} : ∀ (ps : List PV) (us : List Value) (x : Int), RepL c false ps us → mxF mx k x ps K → ∃ r, K r ∧ (us.foldlM (if mx then Builtin.max2 else Builtin.min2) (Value.int k x)).run P c.w = .ok (.int k r) c.w
  | [], us, x, hr, h => by
    have : us = [] := by have := hr.1; simpa using this.symm
    subst this
    exact ⟨x, h, rfl⟩
  | p :: ps, us, x, hr, h => by
    obtain ⟨u, us, rfl, hp, hr'⟩ := hr.uncons
    unfold mxF at h
    split at h
    · rename_i k' b
      obtain ⟨rfl, h⟩ := h
      cases hp
      cases mx with
      | true =>
        obtain ⟨r, h1, h2⟩ := mxF_ok true ps us _ hr' h
        exact ⟨r, h1, by simpa [List.foldlM_cons, Builtin.max2] using h2⟩
      | false =>
        obtain ⟨r, h1, h2⟩ := mxF_ok false ps us _ hr' h
        exact ⟨r, h1, by simpa [List.foldlM_cons, Builtin.min2] using h2⟩
    · exact h.elim

theorem bltn_sound (hT : TyOk P T) (hok : HeapOk c B) (hn : ¬ c.A n) {ρ : TypeId → Operand → PV} (hρ : ∀ t x, Rep c false (ρ t x) (a.eval x)) {cl : Call} (hop : o.op = .call cl) {b : Builtin} (hcl : cl.callee = .builtin b)
    (h : bltn T ρ c.H n b cl.args.toList cl.argTypes.toList K) : Does P o a c B K := by
  obtain ⟨callee, args, ats⟩ := cl
  obtain ⟨args⟩ := args
  obtain ⟨ats⟩ := ats
  dsimp only at h hcl
  unfold bltn at h
  split at h
  · rename_i x t
    have hx := hρ t x
    have hs := fun n => slice_shape hx (n := n)
    split at h
    · rename_i ti ht
      have key : ∀ {d : TypeDesc} {r : Nat}, P.underlying t = some d → ((∃ e A cp, d = .slice e ∧ a.eval x = .slice A r cp) ∨ (∃ s, d = .string ∧ a.eval x = .string s ∧ s.size = r)) → K (.int .i64 r) [] → Does P o a c B K := fun hu hv hK =>
        does_blt hok hop hcl (s := Builtin.len_ (List.toArray [t]) o.type ((List.toArray [x]).map a.eval)) (fun cs => rfl) (by simpa using len_run hu o.type hv c.w) (.int ..) hK
      split at h
      · rename_i e cs hk hp
        obtain ⟨A, cp, hv⟩ := hs _ (by rw [hp]; rfl)
        exact key (hT.slice t ti e ht hk).1 (.inl ⟨e, A, cp, rfl, hv⟩) h
      · rename_i e cs hk hp
        obtain ⟨A, cp, hv⟩ := hs _ (by rw [hp]; rfl)
        exact key (r := 0) (hT.slice t ti e ht hk).1 (.inl ⟨e, A, cp, rfl, hv⟩) h
      · rename_i e _ _ m _ hk hp
        obtain ⟨A, cp, hv⟩ := hs _ (by rw [hp]; rfl)
        exact key (hT.slice t ti e ht hk).1 (.inl ⟨e, A, cp, rfl, hv⟩) h
      · rename_i e _ _ m hk hp
        obtain ⟨A, cp, hv⟩ := hs _ (by rw [hp]; rfl)
        exact key (hT.slice t ti e ht hk).1 (.inl ⟨e, A, cp, rfl, hv⟩) h
      · rename_i s hk hp
        rw [hp] at hx
        have hv : a.eval x = .string s := by
          generalize a.eval x = v at hx
          cases hx
          rfl
        exact key (hT.str t ti ht hk).1 (.inr ⟨s, rfl, hv, rfl⟩) h
      · exact h.elim
    · exact h.elim
  · rename_i x xs t ts
    have hx := hρ t x
    split at h
    · rename_i k i hp
      rw [hp] at hx
      have hv : a.eval x = .int k i := by
        generalize a.eval x = v at hx
        cases hx
        rfl
      obtain ⟨r, hK, hr⟩ := mxF_ok (P := P) false _ _ i (args_ok hρ xs ts) h
      refine does_blt hok hop hcl (s := Builtin.min_ (List.toArray (t :: ts)) o.type ((List.toArray (x :: xs)).map a.eval)) (fun cs => rfl) (v := .int k r) ?_ (.int ..) hK
      simpa [Builtin.min_, hv] using hr
    · exact h.elim
  · rename_i x xs t ts
    have hx := hρ t x
    split at h
    · rename_i k i hp
      rw [hp] at hx
      have hv : a.eval x = .int k i := by
        generalize a.eval x = v at hx
        cases hx
        rfl
      obtain ⟨r, hK, hr⟩ := mxF_ok (P := P) true _ _ i (args_ok hρ xs ts) h
      refine does_blt hok hop hcl (s := Builtin.max_ (List.toArray (t :: ts)) o.type ((List.toArray (x :: xs)).map a.eval)) (fun cs => rfl) (v := .int k r) ?_ (.int ..) hK
      simpa [Builtin.max_, hv] using hr
    · exact h.elim
  · rename_i s x t u
    obtain ⟨rfl, h⟩ := h
    split at h
    · exact h.elim
    · rename_i tt ht
      split at h
      · rename_i e hk
        split at h
        · exact h.elim
        · rename_i te hte
          exact does_append hT hok hn (fun hr => by simp [execOp, hop, resolve, hcl, invoke, builtin, hr]) ht hk hte h.1 (hρ u s) (hρ u x) h.2
      · exact h.elim
  · exact h.elim
end Go.Pv
