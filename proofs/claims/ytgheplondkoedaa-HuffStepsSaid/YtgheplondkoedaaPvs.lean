import Derived.Test.YtgheplondkoedaaPvq
namespace Go.Pv
set_option linter.unusedVariables false
set_option linter.unusedSimpArgs false
open Go Go.RowKit

/-! ### A table of types, held against the program -/
def lk : List (Nat × TI) → TypeId → Option TI
  | [], _ => none
  | (i, v) :: r, t => if i = t then some v else lk r t
theorem lk_mem : ∀ (l : List (Nat × TI)) (t : Nat) (ti : TI), lk l t = some ti → (t, ti) ∈ l
  | [], _, _, h => by cases h
  | (i, v) :: r, t, ti, h => by
    simp only [lk] at h
    by_cases hi : i = t
    · subst hi; rw [if_pos rfl] at h; cases h; simp
    · rw [if_neg hi] at h
      exact List.mem_cons_of_mem _ (lk_mem r t ti h)

def zero1 : PV → Value → Bool
  | .int k n, .int k' m => k == k' && n == m
  | .bool b, .bool b' => b == b'
  | .str s, .string s' => s.size == 0 && s'.size == 0
  | .nilf, .nilFunc => true
  | .nil cs, .slice none 0 0 => cs.len == 0
  | .any, .agg _ => false
  | .any, .tuple _ => false
  | .any, _ => true
  | _, _ => false
def zeroL : List PV → List Value → Bool
  | [], [] => true
  | p :: ps, v :: vs => zero1 p v && zeroL ps vs
  | _, _ => false
def zeroB : PV → Value → Bool
  | .agg ps, .agg vs => zeroL ps vs.toList
  | p, v => zero1 p v
theorem empty_bytes (s : ByteArray) (h : s.size = 0) : s = ByteArray.empty := by
  obtain ⟨⟨l⟩⟩ := s
  have : l = [] := List.eq_nil_of_length_eq_zero h
  subst this
  rfl
theorem zero1_ok {p : PV} {v : Value} (h : zero1 p v = true) (c : Cx) (q : Bool) : Rep c q p v := by
  unfold zero1 at h
  split at h
  · simp at h; obtain ⟨rfl, rfl⟩ := h; exact .int ..
  · simp at h; subst h; exact .bool ..
  · simp at h
    obtain ⟨rfl, rfl⟩ := h
    exact .str ..
  · exact .nilf _
  · simp at h; exact .nil _ _ _ h
  · cases h
  · cases h
  · exact .any ..
  · cases h
theorem zeroL_ok : ∀ (ps : List PV) (vs : List Value), zeroL ps vs = true → ∀ (c : Cx) (q : Bool), RepL c q ps vs
  | [], [], _, c, q => .nil
  | p :: ps, v :: vs, h, c, q => by
    simp [zeroL] at h
    exact .cons (zero1_ok h.1 c q) (zeroL_ok ps vs h.2 c q)
  | [], _ :: _, h, _, _ => by cases h
  | _ :: _, [], h, _, _ => by cases h
theorem zeroB_ok {p : PV} {v : Value} (h : zeroB p v = true) : Zero p v := fun c q => by
  unfold zeroB at h
  split at h
  · have := zeroL_ok _ _ h c q
    exact .agg q _ _ (by simpa using this.1) fun i p v h1 h2 => this.2 i p v h1 (by simpa using h2)
  · exact zero1_ok h c q

def kindB (P : Program) (l : List (Nat × TI)) (t : Nat) (ti : TI) : Bool :=
  match ti.k, P.underlying t with
  | .int k, some (.int k') => k == k' && ti.sz == 1
  | .bool, some .bool => ti.sz == 1
  | .str, some .string => ti.sz == 1
  | .slice e, some (.slice e') => e == e' && ti.sz == 1
  | .struct fs, some (.struct F) => (F.toList.map (fun f => (f.type, f.offset)) == fs && fs.all fun p => (lk l p.1).isSome) && (!plainF (lk l) fs || (F.toList.all (fun f => f.name != "_") && (!P.stoodInHeld t && !P.eqGuardType P.depth t)))
  | .arr n e, some (.array n' e') => n == n' && e == e'
  | .other, some d => !aggD d && ti.sz == 1
  | _, _ => false
def tyB (P : Program) (l : List (Nat × TI)) (p : Nat × TI) : Bool :=
  (match P.info? p.1 with
  | some i => i.size == p.2.sz && i.bytes == p.2.bytes && (match i.zero with
    | some z => zeroB p.2.zero z && z.cells.size == p.2.sz
    | none => false)
  | none => false) && kindB P l p.1 p.2 && p.2.em.all fun e => match e with | some cs => cs.len == 0 | none => true

theorem tyOk_of {P : Program} {l : List (Nat × TI)} (h : l.all (tyB P l) = true) : TyOk P (lk l) := by
  have hk : ∀ t ti, lk l t = some ti → kindB P l t ti = true := fun t ti ht => by
    have := List.all_eq_true.1 h _ (lk_mem l t ti ht)
    simp only [tyB, Bool.and_eq_true] at this
    exact this.1.2
  have hi : ∀ t ti, lk l t = some ti → ∃ i, P.info? t = some i ∧ i.size = ti.sz ∧ i.bytes = ti.bytes ∧ ∃ z, i.zero = some z ∧ Zero ti.zero z ∧ z.cells.size = ti.sz := fun t ti ht => by
    have := List.all_eq_true.1 h _ (lk_mem l t ti ht)
    simp only [tyB, Bool.and_eq_true] at this
    have h1 := this.1.1
    split at h1
    · rename_i i hi
      split at h1
      · rename_i z hz
        simp at h1
        exact ⟨i, hi, h1.1.1, h1.1.2, z, hz, zeroB_ok h1.2.1, h1.2.2⟩
      · simp at h1
    · cases h1
  refine ⟨fun t ti ht cs hcs => ?_, hi, fun t ti k ht e => ?_, fun t ti ht e => ?_, fun t ti ht e => ?_, fun t ti e' ht e => ?_, fun t ti fs ht e => ?_, fun t ti n e' ht e => ?_, fun t ti ht e => ?_, fun t ti fs ht e hp => ?_⟩
  · have := List.all_eq_true.1 h _ (lk_mem l t ti ht)
    simp only [tyB, Bool.and_eq_true] at this
    have h2 := List.all_eq_true.1 this.2 _ hcs
    simpa using h2
  all_goals
    have h1 := hk t ti ht
    unfold kindB at h1
    rw [e] at h1
  · split at h1 <;> first | (rename_i h2 h3; cases h2; simp at h1; exact ⟨by rw [h3, h1.1], h1.2⟩) | (rename_i h2 h3; cases h2) | cases h1
  · split at h1 <;> first | (rename_i h2 h3; cases h2; simp at h1; exact ⟨h3, h1⟩) | (rename_i h2 h3; cases h2) | cases h1
  · split at h1 <;> first | (rename_i h2 h3; cases h2; simp at h1; exact ⟨h3, h1⟩) | (rename_i h2 h3; cases h2) | cases h1
  · split at h1 <;> first | (rename_i h2 h3; cases h2; simp at h1; exact ⟨by rw [h3, h1.1], h1.2⟩) | (rename_i h2 h3; cases h2) | cases h1
  · split at h1 <;> first | (rename_i h2 h3; cases h2; simp at h1; refine ⟨_, h3, h1.1.1, fun p hp => ?_⟩; exact h1.1.2 _ _ hp) | (rename_i h2 h3; cases h2) | cases h1
  · split at h1 <;> first | (rename_i h2 h3; cases h2; simp at h1; rw [h3, h1.1, h1.2]) | (rename_i h2 h3; cases h2) | cases h1
  · split at h1 <;> first | (rename_i h2 h3; cases h2; simp at h1; exact ⟨_, h3, h1⟩) | (rename_i h2 h3; cases h2) | cases h1
  · split at h1 <;> first | (rename_i h2 h3; cases h2; simp only [hp, Bool.and_eq_true, Bool.not_true, Bool.false_or, beq_iff_eq, List.all_eq_true, bne_iff_ne, Bool.not_eq_true'] at h1; exact ⟨_, h3, h1.1.1, h1.2.1, h1.2.2.1, h1.2.2.2⟩) | (rename_i h2 h3; cases h2) | cases h1
end Go.Pv
