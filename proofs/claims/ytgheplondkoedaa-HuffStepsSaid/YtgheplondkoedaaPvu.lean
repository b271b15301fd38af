import Derived.Test.YtgheplondkoedaaPvr
namespace Go.Pv
set_option linter.unusedVariables false
set_option linter.unusedSimpArgs false
open Go Go.RowKit
variable {P : Program} {T : Ty} {nt : Nat}

/-! ### What goes through gives one answer -/
def Det {α : Type} (F : (α → Prop) → Prop) : Prop := ∀ K, F K → ∃ x, F (fun y => y = x) ∧ K x
def Mon {α : Type} (F : (α → Prop) → Prop) : Prop := ∀ K K' : α → Prop, (∀ x, K x → K' x) → F K → F K'
theorem Det.bind {α β : Type} {F : (α → Prop) → Prop} {G : α → (β → Prop) → Prop} (hF : Det F) (mF : Mon F) (hG : ∀ x, Det (G x)) : Det fun K => F fun x => G x K := fun K h => by
  obtain ⟨x, h1, h2⟩ := hF _ h
  obtain ⟨y, h3, h4⟩ := hG x K h2
  exact ⟨y, mF _ _ (fun z (hz : z = x) => by subst hz; exact h3) h1, h4⟩
theorem Mon.bind {α β : Type} {F : (α → Prop) → Prop} {G : α → (β → Prop) → Prop} (mF : Mon F) (mG : ∀ x, Mon (G x)) : Mon fun K => F fun x => G x K := fun K K' hk h => mF _ _ (fun x hx => mG x K K' hk hx) h
theorem Det.leaf {α : Type} {p : Prop} {v : α} : Det fun K => p ∧ K v := fun K h => ⟨v, ⟨h.1, rfl⟩, h.2⟩
theorem Mon.leaf {α : Type} {p : Prop} {v : α} : Mon fun K => p ∧ K v := fun K K' hk h => ⟨h.1, hk _ h.2⟩

theorem idx_det {x : PV} : Det (idx x) := fun K h => by
  unfold idx at h ⊢
  split at h
  · exact ⟨_, rfl, h⟩
  · exact h.elim
theorem idx_mon {x : PV} : Mon (idx x) := fun K K' hk h => by
  unfold idx at h ⊢
  split at h
  · exact hk _ h
  · exact h.elim
theorem ldC_det {ti : TI} {cs : Cells} {i j : Nat} : Det (ldC ti cs i j) := fun K h => by
  unfold ldC at h ⊢
  split at h
  · rename_i hk
    simp only [hk, if_true]
    split at h
    · exact ⟨_, ⟨h.1, h.2.1, h.2.2.1, rfl⟩, h.2.2.2⟩
    · exact h.elim
  · rename_i hk
    simp only [hk, if_false]
    exact ⟨_, ⟨h.1, h.2.1, rfl⟩, h.2.2⟩
theorem ldC_mon {ti : TI} {cs : Cells} {i j : Nat} : Mon (ldC ti cs i j) := fun K K' hk h => by
  unfold ldC at h ⊢
  split
  · rename_i hk'
    rw [if_pos hk'] at h
    split at h
    · exact ⟨h.1, h.2.1, h.2.2.1, hk _ h.2.2.2⟩
    · exact h.elim
  · rename_i hk'
    rw [if_neg hk'] at h
    exact ⟨h.1, h.2.1, hk _ h.2.2⟩
theorem ldP_det {ti : TI} {H : Nat → Option Blk} {p : PV} : Det (ldP ti H p) := fun K h => by
  cases p <;> try (exact h.elim)
  case ptr id i j tot =>
    simp only [ldP] at h ⊢
    cases hb : H id with
    | none => rw [hb] at h; exact h.elim
    | some b =>
      rw [hb] at h
      obtain ⟨x, h1, h2⟩ := ldC_det K h.2
      exact ⟨x, ⟨h.1, h1⟩, h2⟩
  case rop cs i j => exact ldC_det K h
theorem fldP_det {H : Nat → Option Blk} {off : Nat} {p : PV} : Det (fldP H off p) := fun K h => by
  cases p <;> try (exact h.elim)
  case ptr => exact ⟨_, ⟨h.1, rfl⟩, h.2⟩
  case rop => exact ⟨_, rfl, h⟩
theorem ixS_det {H : Nat → Option Blk} {te : TI} {i : Int} {p : PV} : Det (ixS H te i p) := fun K h => by
  cases p <;> try (exact h.elim)
  case ro => exact ⟨_, ⟨h.1, h.2.1, h.2.2.1, rfl⟩, h.2.2.2⟩
  case sl id off m tot =>
    simp only [ixS] at h ⊢
    cases hb : H id with
    | none => rw [hb] at h; exact h.elim
    | some b =>
      rw [hb] at h
      exact ⟨_, ⟨h.1, h.2.1, h.2.2.1, h.2.2.2.1, rfl⟩, h.2.2.2.2⟩
  case asl id j m =>
    simp only [ixS] at h ⊢
    cases hb : H id with
    | none => rw [hb] at h; exact h.elim
    | some b =>
      rw [hb] at h
      exact ⟨_, ⟨h.1, h.2.1, h.2.2.1, rfl⟩, h.2.2.2⟩
theorem ixA_det {H : Nat → Option Blk} {m : Nat} {te : TI} {i : Int} {p : PV} : Det (ixA H m te i p) := fun K h => by
  cases p <;> try (exact h.elim)
  case ptr => exact ⟨_, ⟨h.1, h.2.1, h.2.2.1, rfl⟩, h.2.2.2⟩
  case rop => exact ⟨_, ⟨h.1, h.2.1, rfl⟩, h.2.2⟩
theorem oidx_det {ρ : TypeId → Operand → PV} {x : Option Operand} : Det (oidx ρ x) := fun K h => by
  cases x with
  | none => exact ⟨_, rfl, h⟩
  | some y =>
    obtain ⟨i, h1, h2⟩ := idx_det _ h
    exact ⟨some i, idx_mon _ _ (fun x hx => by rw [hx]) h1, h2⟩
theorem oidx_mon {ρ : TypeId → Operand → PV} {x : Option Operand} : Mon (oidx ρ x) := fun K K' hk h => by
  cases x with
  | none => exact hk _ h
  | some y => exact idx_mon _ _ (fun i hi => hk _ hi) h
theorem slP_det {H : Nat → Option Blk} {te : TI} {l h' : Option Int} {p : PV} : Det (slP H te l h' p) := fun K h => by
  cases p <;> try (exact h.elim)
  case ro => exact ⟨_, ⟨h.1, h.2.1, h.2.2.1, h.2.2.2.1, rfl⟩, h.2.2.2.2⟩
  case nil => exact ⟨_, ⟨h.1, h.2.1, rfl⟩, h.2.2⟩
  case sl id off m tot =>
    simp only [slP] at h ⊢
    cases hb : H id with
    | none => rw [hb] at h; exact h.elim
    | some b =>
      rw [hb] at h
      exact ⟨_, ⟨h.1, h.2.1, h.2.2.1, h.2.2.2.1, h.2.2.2.2.1, rfl⟩, h.2.2.2.2.2⟩
theorem slA_det {H : Nat → Option Blk} {m : Nat} {x : Int} {p : PV} : Det (slA H m x p) := fun K h => by
  cases p <;> try (exact h.elim)
  rename_i id i j tot
  simp only [slA] at h ⊢
  cases hb : H id with
  | none => rw [hb] at h; exact h.elim
  | some b => rw [hb] at h; exact ⟨_, ⟨h.1, h.2.1, h.2.2.1, h.2.2.2.1, h.2.2.2.2.1, h.2.2.2.2.2.1, rfl⟩, h.2.2.2.2.2.2⟩
theorem sl0_det {H : Nat → Option Blk} {p : PV} : Det (sl0 H p) := fun K h => by
  cases p <;> try (exact h.elim)
  case ro => exact ⟨_, rfl, h⟩
  case nil => exact ⟨_, rfl, h⟩
  case sl id off m tot =>
    simp only [sl0] at h ⊢
    cases hb : H id with
    | none => rw [hb] at h; exact h.elim
    | some b => rw [hb] at h; exact ⟨_, rfl, h⟩
theorem rdS_det {H : Nat → Option Blk} {p : PV} : Det (rdS H p) := fun K h => by
  cases p <;> try (exact h.elim)
  case ro => exact ⟨_, rfl, h⟩
  case nil => exact ⟨_, rfl, h⟩
  case sl id off m tot =>
    simp only [rdS] at h ⊢
    cases hb : H id with
    | none => rw [hb] at h; exact h.elim
    | some b => rw [hb] at h; exact ⟨_, ⟨h.1, rfl⟩, h.2⟩
theorem rdS_mon {H : Nat → Option Blk} {p : PV} : Mon (rdS H p) := fun K K' hk h => by
  cases p <;> try (exact h.elim)
  case ro => exact hk _ h
  case nil => exact hk _ h
  case sl id off m tot =>
    simp only [rdS] at h ⊢
    cases hb : H id with
    | none => rw [hb] at h; exact h.elim
    | some b => rw [hb] at h; exact ⟨h.1, hk _ h.2⟩
theorem stC_det {cs : Cells} {i j : Nat} {vs : List PV} : Det (stC cs i j vs) := fun K h => by
  unfold stC at h ⊢
  split at h
  · split at h
    · exact ⟨_, ⟨h.1, h.2.1, h.2.2.1, rfl⟩, h.2.2.2⟩
    · exact h.elim
  · exact ⟨_, ⟨h.1, h.2.1, h.2.2.1, h.2.2.2.1, rfl⟩, h.2.2.2.2⟩
  · exact h.elim
theorem stC_mon {cs : Cells} {i j : Nat} {vs : List PV} : Mon (stC cs i j vs) := fun K K' hk h => by
  unfold stC at h ⊢
  split at h
  · split at h
    · exact ⟨h.1, h.2.1, h.2.2.1, hk _ h.2.2.2⟩
    · exact h.elim
  · exact ⟨h.1, h.2.1, h.2.2.1, h.2.2.2.1, hk _ h.2.2.2.2⟩
  · exact h.elim
theorem apC_det {a b : Cells} : Det (apC a b) := fun K h => by
  unfold apC at h ⊢
  split at h
  · exact ⟨_, ⟨h.1, rfl⟩, h.2⟩
  · exact ⟨_, ⟨h.1, rfl⟩, h.2⟩
  · exact h.elim
theorem apC_mon {a b : Cells} : Mon (apC a b) := fun K K' hk h => by
  unfold apC at h ⊢
  split at h
  · exact ⟨h.1, hk _ h.2⟩
  · exact ⟨h.1, hk _ h.2⟩
  · exact h.elim
theorem fillP_det {pl : Nat → Option (Nat × Nat × TypeId)} {ρ : TypeId → Operand → PV} : ∀ (ps : List (Nat × Operand)) (cells : List PV), Det (fillP pl ρ cells ps)
  | [], cells => fun K h => ⟨_, rfl, h⟩
  | (i, x) :: r, cells => fun K h => by
    simp only [fillP] at h ⊢
    cases hp : pl i with
    | none => rw [hp] at h; exact h.elim
    | some q =>
      obtain ⟨off, size, t⟩ := q
      rw [hp] at h
      simp only at h ⊢
      cases hc : cellsOf (ρ t x) with
      | none => rw [hc] at h; exact h.elim
      | some vs =>
        rw [hc] at h
        obtain ⟨x, h1, h2⟩ := fillP_det r _ K h.2.2
        exact ⟨x, ⟨h.1, h.2.1, h1⟩, h2⟩
theorem fillP_mon {pl : Nat → Option (Nat × Nat × TypeId)} {ρ : TypeId → Operand → PV} : ∀ (ps : List (Nat × Operand)) (cells : List PV), Mon (fillP pl ρ cells ps)
  | [], cells => fun K K' hk h => hk _ h
  | (i, x) :: r, cells => fun K K' hk h => by
    simp only [fillP] at h ⊢
    cases hp : pl i with
    | none => rw [hp] at h; exact h.elim
    | some q =>
      obtain ⟨off, size, t⟩ := q
      rw [hp] at h
      simp only at h ⊢
      cases hc : cellsOf (ρ t x) with
      | none => rw [hc] at h; exact h.elim
      | some vs =>
        rw [hc] at h
        exact ⟨h.1, h.2.1, fillP_mon r _ K K' hk h.2.2⟩

def Det2 {α β : Type} (F : (α → β → Prop) → Prop) : Prop := ∀ K, F K → ∃ x y, F (fun x' y' => x' = x ∧ y' = y) ∧ K x y
def Mon2 {α β : Type} (F : (α → β → Prop) → Prop) : Prop := ∀ K K' : α → β → Prop, (∀ x y, K x y → K' x y) → F K → F K'
theorem mvL_det : ∀ (ps : List PV) (H : Nat → Option Blk), Det2 (mvL H ps)
  | [], H => fun K h => ⟨_, _, ⟨rfl, rfl⟩, h⟩
  | p :: ps, H => fun K h => by
    have go : ∀ {q : PV}, (mvL H ps fun ps e => K (q :: ps) e) → ∃ x y, (mvL H ps fun ps e => q :: ps = x ∧ e = y) ∧ K x y := fun {q} h => by
      obtain ⟨x, y, h1, h2⟩ := mvL_det ps H _ h
      refine ⟨q :: x, y, ?_, h2⟩
      have : (fun ps e => q :: ps = q :: x ∧ e = y) = fun (x' : List PV) (y' : Eff) => x' = x ∧ y' = y := by funext a b; simp
      rw [this]
      exact h1
    cases p <;> simp only [mvL] at h ⊢ <;> first | exact go h | skip
    case sl id off m tot =>
      obtain ⟨e1, e2, h⟩ := h
      cases hb : H id with
      | none => rw [hb] at h; exact h.elim
      | some b =>
        rw [hb] at h
        obtain ⟨x, y, h1, h2⟩ := mvL_det ps _ _ h.2
        refine ⟨.ro b.cs :: x, (id, none) :: y, ⟨e1, e2, h.1, ?_⟩, h2⟩
        have : (fun ps e => PV.ro b.cs :: ps = .ro b.cs :: x ∧ (id, none) :: e = (id, none) :: y) = fun (x' : List PV) (y' : Eff) => x' = x ∧ y' = y := by funext a b; simp
        rw [this]
        exact h1
    case fn f caps =>
      cases caps with
      | nil => simp only [mvL] at h ⊢; exact go h
      | cons q qs =>
        simp only [mvL] at h ⊢
        obtain ⟨x, y, h1, h2⟩ := go h.2
        exact ⟨x, y, ⟨h.1, h1⟩, h2⟩
theorem mvL_mon : ∀ (ps : List PV) (H : Nat → Option Blk), Mon2 (mvL H ps)
  | [], H => fun K K' hk h => hk _ _ h
  | p :: ps, H => fun K K' hk h => by
    cases p <;> simp only [mvL] at h ⊢ <;> first | exact mvL_mon ps H _ _ (fun x y hx => hk _ _ hx) h | skip
    case sl id off m tot =>
      obtain ⟨e1, e2, h⟩ := h
      cases hb : H id with
      | none => rw [hb] at h; exact h.elim
      | some b =>
        rw [hb] at h
        exact ⟨e1, e2, h.1, mvL_mon ps _ _ _ (fun x y hx => hk _ _ hx) h.2⟩
    case fn f caps =>
      cases caps with
      | nil => simp only [mvL] at h ⊢; exact mvL_mon ps H _ _ (fun x y hx => hk _ _ hx) h
      | cons q qs =>
        simp only [mvL] at h ⊢
        exact ⟨h.1, mvL_mon ps H _ _ (fun x y hx => hk _ _ hx) h.2⟩
theorem frz1_det {H : Nat → Option Blk} {p : PV} : Det2 (frz1 H p) := fun K h => by
  cases p <;> simp only [frz1] at h ⊢ <;> first | exact ⟨_, _, ⟨rfl, rfl⟩, h⟩ | skip
  case sl id off m tot =>
    cases hb : H id with
    | none => rw [hb] at h; exact h.elim
    | some b => rw [hb] at h; exact ⟨_, _, ⟨h.1, rfl, rfl⟩, h.2⟩
  case ptr id i j tot =>
    cases hb : H id with
    | none => rw [hb] at h; exact h.elim
    | some b => rw [hb] at h; exact ⟨_, _, ⟨h.1, h.2.1, rfl, rfl⟩, h.2.2⟩
  case fn f caps => cases caps <;> simp only [frz1] at h ⊢; exact ⟨_, _, ⟨rfl, rfl⟩, h⟩
theorem frz1_mon {H : Nat → Option Blk} {p : PV} : Mon2 (frz1 H p) := fun K K' hk h => by
  cases p <;> simp only [frz1] at h ⊢ <;> first | exact hk _ _ h | skip
  case sl id off m tot =>
    cases hb : H id with
    | none => rw [hb] at h; exact h.elim
    | some b => rw [hb] at h; exact ⟨h.1, hk _ _ h.2⟩
  case ptr id i j tot =>
    cases hb : H id with
    | none => rw [hb] at h; exact h.elim
    | some b => rw [hb] at h; exact ⟨h.1, h.2.1, hk _ _ h.2.2⟩
  case fn f caps => cases caps <;> simp only [frz1] at h ⊢; exact hk _ _ h
theorem Det2.bind2 {α β γ δ : Type} {F : (α → β → Prop) → Prop} {G : α → β → (γ → δ → Prop) → Prop} (hF : Det2 F) (mF : Mon2 F) (hG : ∀ x y, Det2 (G x y)) : Det2 fun K => F fun x y => G x y K := fun K h => by
  obtain ⟨x, y, h1, h2⟩ := hF _ h
  obtain ⟨u, v, h3, h4⟩ := hG x y K h2
  exact ⟨u, v, mF _ _ (fun a b hz => by obtain ⟨rfl, rfl⟩ := hz; exact h3) h1, h4⟩
theorem Mon2.bind2 {α β γ δ : Type} {F : (α → β → Prop) → Prop} {G : α → β → (γ → δ → Prop) → Prop} (mF : Mon2 F) (mG : ∀ x y, Mon2 (G x y)) : Mon2 fun K => F fun x y => G x y K := fun K K' hk h => mF _ _ (fun x y hx => mG x y K K' hk hx) h
theorem det2_map {α β γ δ : Type} {F : (α → β → Prop) → Prop} (f : α → γ) (g : β → δ) (hF : Det2 F) (mF : Mon2 F) : Det2 fun K => F fun x y => K (f x) (g y) := fun K h => by
  obtain ⟨x, y, h1, h2⟩ := hF _ h
  exact ⟨f x, g y, mF _ _ (fun a b hz => by obtain ⟨rfl, rfl⟩ := hz; exact ⟨rfl, rfl⟩) h1, h2⟩
theorem frzL_mon {H : Nat → Option Blk} : ∀ ps : List PV, Mon2 (frzL H ps)
  | [] => fun K K' hk h => hk _ _ h
  | p :: ps => fun K K' hk h => frz1_mon _ _ (fun x y hx => frzL_mon ps _ _ (fun a b hab => hk _ _ hab) hx) h
theorem frzL_det {H : Nat → Option Blk} : ∀ ps : List PV, Det2 (frzL H ps)
  | [] => fun K h => ⟨_, _, ⟨rfl, rfl⟩, h⟩
  | p :: ps => Det2.bind2 (G := fun p i K => frzL H ps fun ps is => K (p :: ps) (i ++ is)) frz1_det frz1_mon fun x y => det2_map (fun ps => x :: ps) (fun is => y ++ is) (frzL_det ps) (frzL_mon ps)
theorem frz_det {H : Nat → Option Blk} {p : PV} : Det2 (frz H p) := fun K h => by
  unfold frz at h ⊢
  split at h
  · exact det2_map (fun l => PV.agg l) (fun is => is) (frzL_det _) (frzL_mon _) K h
  · exact det2_map (fun l => PV.fn _ l) (fun is => is) (frzL_det _) (frzL_mon _) K h
  · exact frz1_det K h
theorem frz_mon {H : Nat → Option Blk} {p : PV} : Mon2 (frz H p) := fun K K' hk h => by
  unfold frz at h ⊢
  split at h
  · exact frzL_mon _ _ _ (fun x y hx => hk _ _ hx) h
  · exact frzL_mon _ _ _ (fun x y hx => hk _ _ hx) h
  · exact frz1_mon _ _ hk h
theorem frzA_mon {H : Nat → Option Blk} : ∀ ps : List PV, Mon2 (frzA H ps)
  | [] => fun K K' hk h => hk _ _ h
  | p :: ps => fun K K' hk h => frz_mon _ _ (fun x y hx => frzA_mon ps _ _ (fun a b hab => hk _ _ hab) hx) h
theorem frzA_det {H : Nat → Option Blk} : ∀ ps : List PV, Det2 (frzA H ps)
  | [] => fun K h => ⟨_, _, ⟨rfl, rfl⟩, h⟩
  | p :: ps => Det2.bind2 (G := fun p i K => frzA H ps fun ps is => K (p :: ps) (i ++ is)) frz_det frz_mon fun x y => det2_map (fun ps => x :: ps) (fun is => y ++ is) (frzA_det ps) (frzA_mon ps)
theorem mxF_det {mx : Bool} {k : IntKind} : ∀ (ps : List PV) (x : Int), Det (mxF mx k x ps)
  | [], x => fun K h => ⟨x, rfl, h⟩
  | p :: ps, x => fun K h => by
    cases p <;> try (exact h.elim)
    obtain ⟨rfl, h⟩ := h
    cases mx with
    | true =>
      obtain ⟨r, h1, h2⟩ := mxF_det ps _ K h
      exact ⟨r, ⟨rfl, h1⟩, h2⟩
    | false =>
      obtain ⟨r, h1, h2⟩ := mxF_det ps _ K h
      exact ⟨r, ⟨rfl, h1⟩, h2⟩
theorem mxF_mon {mx : Bool} {k : IntKind} : ∀ (ps : List PV) (x : Int), Mon (mxF mx k x ps)
  | [], x => fun K K' hk h => hk _ h
  | p :: ps, x => fun K K' hk h => by
    cases p <;> try (exact h.elim)
    obtain ⟨rfl, h⟩ := h
    cases mx with
    | true => exact ⟨rfl, mxF_mon ps _ K K' hk h⟩
    | false => exact ⟨rfl, mxF_mon ps _ K K' hk h⟩
theorem ops2_det {op : BinOp} {k : IntKind} {a b : Int} : Det (ops2 op k a b) := fun K h => by
  cases op <;> simp only [ops2] at h ⊢ <;> first | exact ⟨_, rfl, h⟩ | exact ⟨_, ⟨h.1, rfl⟩, h.2⟩
theorem sh2_det {op : BinOp} {k : IntKind} {a b : Int} : Det (sh2 op k a b) := fun K h => by
  cases op <;> simp only [sh2] at h ⊢ <;> exact ⟨_, ⟨h.1, rfl⟩, h.2⟩
theorem bin_det {T : Ty} {xt : TypeId} {op : BinOp} {x y : PV} : Det (bin T xt op x y) := fun K h => by
  unfold bin at h ⊢
  split at h
  · split at h
    · exact sh2_det K h
    · exact sh2_det K h
    · obtain ⟨v, h1, h2⟩ := ops2_det K h.2
      exact ⟨v, ⟨h.1, h1⟩, h2⟩
  · split at h
    · obtain ⟨hk, h⟩ := h
      split at h
      · exact ⟨_, ⟨hk, rfl⟩, h⟩
      · exact ⟨_, ⟨hk, rfl⟩, h⟩
      · exact h.elim
    · exact h.elim
  · split at h
    · exact ⟨_, rfl, h⟩
    · exact ⟨_, rfl, h⟩
    · exact ⟨_, ⟨h.1, rfl⟩, h.2⟩
    · exact h.elim
  · split at h
    · split at h
      · split at h
        · split at h
          · exact ⟨_, rfl, h⟩
          · exact ⟨_, rfl, h⟩
          · exact h.elim
        · exact h.elim
      · exact h.elim
    · exact h.elim
  · exact h.elim

theorem det_pure {F : (PV → Prop) → Prop} (hF : Det F) (mF : Mon F) : Det2 fun (K : PV → Eff → Prop) => F fun v => K v [] := fun K h => by
  obtain ⟨v, h1, h2⟩ := hF _ h
  exact ⟨v, [], mF _ _ (fun x hx => ⟨hx, rfl⟩) h1, h2⟩
theorem det_pure' {F : (PV → Prop) → Prop} (hF : Det F) (heq : ∀ v, F (fun y => y = v) = F (fun y => y = v ∧ ([] : Eff) = [])) : Det2 fun (K : PV → Eff → Prop) => F fun v => K v [] := fun K h => by
  obtain ⟨v, h1, h2⟩ := hF _ h
  exact ⟨v, [], by show F fun y => y = v ∧ ([] : Eff) = []; rw [← heq]; exact h1, h2⟩
theorem and_true_fun (v : PV) : (fun y : PV => y = v) = fun y => y = v ∧ ([] : Eff) = [] := by funext y; simp
theorem det_p {F : (PV → Prop) → Prop} (hF : Det F) : Det2 fun (K : PV → Eff → Prop) => F fun v => K v [] := det_pure' hF fun v => by rw [and_true_fun]

theorem det2_of {α : Type} {F : (α → Prop) → Prop} {f : α → PV} (hF : Det F) (mF : Mon F) : Det2 fun (K : PV → Eff → Prop) => F fun v => K (f v) [] := fun K h => by
  obtain ⟨v, h1, h2⟩ := hF _ h
  exact ⟨f v, [], mF _ _ (fun x (hx : x = v) => by subst hx; exact ⟨rfl, rfl⟩) h1, h2⟩

theorem apS_det {H : Nat → Option Blk} {n : Nat} {e : TypeId} {te : TI} {s x : PV} : Det2 (apS H n e te s x) := fun K h => by
  cases s <;> try (exact h.elim)
  case nil cs =>
    obtain ⟨c, h1, h2⟩ := rdS_det _ h
    exact ⟨_, _, rdS_mon _ _ (fun c' hc => by subst hc; exact ⟨h2.1, h2.2.1, h2.2.2.1, rfl, rfl⟩) h1, h2.2.2.2⟩
  case sl id off m tot =>
    obtain ⟨e1, e2, h⟩ := h
    simp only [apS]
    cases hb : H id with
    | none => rw [hb] at h; exact h.elim
    | some b =>
      rw [hb] at h
      obtain ⟨a1, a2, a3, a4, h⟩ := h
      obtain ⟨c, h1, h2⟩ := rdS_det _ h
      obtain ⟨d, h3, h4⟩ := apC_det _ h2.2.2
      exact ⟨_, _, ⟨e1, e2, a1, a2, a3, a4, rdS_mon _ _ (fun c' hc => by subst hc; exact ⟨h2.1, h2.2.1, apC_mon _ _ (fun d' hd => by subst hd; exact ⟨rfl, rfl⟩) h3⟩) h1⟩, h4⟩

theorem bltn_det {ρ : TypeId → Operand → PV} {H : Nat → Option Blk} {n : Nat} {b : Builtin} {args : List Operand} {ts : List TypeId} : Det2 (bltn T ρ H n b args ts) := fun K h => by
  unfold bltn at h ⊢
  split at h
  · split at h
    · split at h <;> first | exact ⟨_, _, ⟨rfl, rfl⟩, h⟩ | exact h.elim
    · exact h.elim
  · split at h
    · exact det2_of (mxF_det _ _) (mxF_mon _ _) K h
    · exact h.elim
  · split at h
    · exact det2_of (mxF_det _ _) (mxF_mon _ _) K h
    · exact h.elim
  · obtain ⟨e1, h⟩ := h
    split at h
    · exact h.elim
    · split at h
      · split at h
        · exact h.elim
        · obtain ⟨x, y, h1, h2⟩ := apS_det K h.2
          exact ⟨x, y, ⟨e1, h.1, h1⟩, h2⟩
      · exact h.elim
  · exact h.elim

theorem opv_det {o : Oper} {ρ : TypeId → Operand → PV} {H : Nat → Option Blk} {n : Nat} : Det2 (opv P T o ρ H n) := fun K h => by
  cases hop : o.op <;> simp only [opv, hop] at h ⊢ <;> try (exact h.elim)
  case move x => exact ⟨_, _, ⟨rfl, rfl⟩, h⟩
  case assign x => exact ⟨_, _, ⟨rfl, rfl⟩, h⟩
  case pick c x y =>
    split at h
    · rename_i t _
      cases t with
      | true => exact ⟨_, _, ⟨(fun _ => ⟨rfl, rfl⟩), (fun h => by cases h)⟩, h.1 rfl⟩
      | false => exact ⟨_, _, ⟨(fun h => by cases h), (fun _ => ⟨rfl, rfl⟩)⟩, h.2 rfl⟩
    · exact h.elim
  case alloc e =>
    split at h
    · split at h
      · exact ⟨_, _, ⟨h.1, rfl, rfl⟩, h.2⟩
      · exact h.elim
    · exact h.elim
  case box e x =>
    split at h
    · exact ⟨_, _, ⟨h.1, rfl, rfl⟩, h.2⟩
    · exact h.elim
  case build t parts =>
    split at h
    · split at h
      · split at h
        · exact det2_of (fillP_det _ _) (fillP_mon _ _) K h
        · split at h
          · exact det2_of (fillP_det _ _) (fillP_mon _ _) K h
          · exact h.elim
        · exact h.elim
      · exact h.elim
    · exact h.elim
  case buildSlice t len parts =>
    split at h
    · split at h
      · split at h
        · obtain ⟨a1, a2, a3, h⟩ := h
          split at h
          · obtain ⟨c, h1, h2, h3⟩ := fillP_det _ _ _ h
            obtain ⟨x, y, h4, h5⟩ := mvL_det _ _ _ h3
            split at h5
            · rename_i cs hcs
              rcases h5 with h5 | h5
              · refine ⟨_, _, ⟨a1, a2, a3, fillP_mon _ _ _ _ (fun c' hc => by subst hc; exact ⟨h2, mvL_mon _ _ _ _ (fun x' y' hx => by obtain ⟨rfl, rfl⟩ := hx; rw [hcs]; exact .inl ⟨rfl, rfl⟩) h4⟩) h1⟩, h5⟩
              · refine ⟨_, _, ⟨a1, a2, a3, fillP_mon _ _ _ _ (fun c' hc => by subst hc; exact ⟨h2, mvL_mon _ _ _ _ (fun x' y' hx => by obtain ⟨rfl, rfl⟩ := hx; rw [hcs]; exact .inr ⟨rfl, rfl⟩) h4⟩) h1⟩, h5⟩
            · exact h5.elim
          · exact h.elim
        · exact h.elim
      · exact h.elim
    · exact h.elim
  case load t x =>
    split at h
    · exact det_p ldP_det K h
    · exact h.elim
  case store t x y =>
    split at h
    · split at h
      · split at h
        · rename_i b hb
          obtain ⟨a1, h⟩ := h
          split at h
          · obtain ⟨a2, a3, h1, h2⟩ := h
            rcases Bool.eq_false_or_eq_true b.box with hbox | hbox
            · obtain ⟨c, h3, h4⟩ := stC_det _ (h1 hbox)
              exact ⟨_, _, ⟨a1, a2, a3, (fun _ => stC_mon _ _ (fun c' hc => by subst hc; exact ⟨rfl, rfl⟩) h3), (fun h => by rw [hbox] at h; cases h)⟩, h4⟩
            · obtain ⟨x, y, h3, a4, h4⟩ := mvL_det _ _ _ (h2 hbox)
              obtain ⟨c, h5, h6⟩ := stC_det _ h4
              exact ⟨_, _, ⟨a1, a2, a3, (fun h => by rw [hbox] at h; cases h), fun _ => mvL_mon _ _ _ _ (fun x' y' hx => by obtain ⟨rfl, rfl⟩ := hx; exact ⟨a4, stC_mon _ _ (fun c' hc => by subst hc; exact ⟨rfl, rfl⟩) h5⟩) h3⟩, h6⟩
          · exact h.elim
        · exact h.elim
      · exact h.elim
    · exact h.elim
  case nilCheck x =>
    split at h <;> first | exact ⟨_, _, ⟨h.1, rfl, rfl⟩, h.2⟩ | exact ⟨_, _, ⟨rfl, rfl⟩, h⟩ | exact h.elim
  case binOp op t x y u => exact det_p bin_det K h
  case unOp op t x => split at h <;> first | exact ⟨_, _, ⟨rfl, rfl⟩, h⟩ | exact h.elim
  case convert s d x =>
    split at h
    · split at h
      · split at h
        · exact ⟨_, _, ⟨rfl, rfl⟩, h⟩
        · exact h.elim
      · split at h
        · split at h
          · obtain ⟨a1, h⟩ := h
            obtain ⟨c, h1, h2⟩ := rdS_det _ h
            split at h2
            · exact ⟨_, _, ⟨a1, rdS_mon _ _ (fun c' hc => by subst hc; exact ⟨rfl, rfl⟩) h1⟩, h2⟩
            · exact ⟨_, _, ⟨a1, rdS_mon _ _ (fun c' hc => by subst hc; exact ⟨rfl, rfl⟩) h1⟩, h2⟩
            · exact h2.elim
          · exact h.elim
        · exact h.elim
      · exact h.elim
    · exact h.elim
  case makeFunc fn first caps => split at h <;> first | exact ⟨_, _, ⟨h.1, rfl, rfl⟩, h.2⟩ | exact h.elim
  case makeSlice t l cp =>
    split at h
    · split at h
      · split at h
        · obtain ⟨i, h1, h2⟩ := idx_det _ h
          obtain ⟨j, h3, a1, a2, a3, a4, a5, h4⟩ := idx_det _ h2
          split at h4
          · obtain ⟨a6, h4⟩ := h4
            split at h4
            · obtain ⟨a7, h4⟩ := h4
              rcases h4 with h4 | h4
              · exact ⟨_, _, idx_mon _ _ (fun i' hi => by subst hi; exact idx_mon _ _ (fun j' hj => by subst hj; exact ⟨a1, a2, a3, a4, a5, a6, a7, .inl ⟨rfl, rfl⟩⟩) h3) h1, h4⟩
              · exact ⟨_, _, idx_mon _ _ (fun i' hi => by subst hi; exact idx_mon _ _ (fun j' hj => by subst hj; exact ⟨a1, a2, a3, a4, a5, a6, a7, .inr ⟨rfl, rfl⟩⟩) h3) h1, h4⟩
            · exact h4.elim
            · split at h4
              · rename_i hz
                rcases h4 with h4 | h4
                · exact ⟨_, _, idx_mon _ _ (fun i' hi => by subst hi; exact idx_mon _ _ (fun j' hj => by subst hj; refine ⟨a1, a2, a3, a4, a5, a6, ?_⟩; exact .inl ⟨rfl, rfl⟩) h3) h1, h4⟩
                · exact ⟨_, _, idx_mon _ _ (fun i' hi => by subst hi; exact idx_mon _ _ (fun j' hj => by subst hj; refine ⟨a1, a2, a3, a4, a5, a6, ?_⟩; exact .inr ⟨rfl, rfl⟩) h3) h1, h4⟩
              · exact h4.elim
          · exact h4.elim
        · exact h.elim
      · exact h.elim
    · exact h.elim
  case slice t x lo hi mx =>
    split at h
    · split at h
      · split at h
        · split at h
          · obtain ⟨a1, a2, a3, h⟩ := h
            obtain ⟨v, h1, h2⟩ := sl0_det _ h
            rw [and_true_fun] at h1
            exact ⟨_, _, ⟨a1, a2, a3, h1⟩, h2⟩
          · obtain ⟨l, h1, h2⟩ := oidx_det _ h
            obtain ⟨m, h3, h4⟩ := oidx_det _ h2
            obtain ⟨v, h5, h6⟩ := slP_det _ h4
            rw [and_true_fun] at h5
            exact ⟨_, _, oidx_mon _ _ (fun l' hl => by subst hl; exact oidx_mon _ _ (fun m' hm => by subst hm; exact h5) h3) h1, h6⟩
        · exact h.elim
      · obtain ⟨b1, b2, b3, h⟩ := h
        obtain ⟨m, h3, h4⟩ := oidx_det _ h
        obtain ⟨v, h5, h6⟩ := slA_det _ h4
        rw [and_true_fun] at h5
        exact ⟨_, _, ⟨b1, b2, b3, oidx_mon _ _ (fun m' hm => by subst hm; exact h5) h3⟩, h6⟩
      · exact h.elim
    · exact h.elim
  case fieldAddr t x f =>
    split at h
    · split at h
      · split at h
        · obtain ⟨v, h1, h2⟩ := fldP_det _ h.2
          rw [and_true_fun] at h1
          exact ⟨_, _, ⟨h.1, h1⟩, h2⟩
        · exact h.elim
      · exact h.elim
    · exact h.elim
  case indexAddr t x ix =>
    split at h
    · split at h
      · split at h
        · exact h.elim
        · obtain ⟨i, h1, h2⟩ := idx_det _ h
          obtain ⟨v, h3, h4⟩ := ixS_det _ h2
          rw [and_true_fun] at h3
          exact ⟨_, _, idx_mon _ _ (fun i' hi => by subst hi; exact h3) h1, h4⟩
      · split at h
        · exact h.elim
        · obtain ⟨i, h1, h2⟩ := idx_det _ h
          obtain ⟨v, h3, h4⟩ := ixA_det _ h2
          rw [and_true_fun] at h3
          exact ⟨_, _, idx_mon _ _ (fun i' hi => by subst hi; exact h3) h1, h4⟩
      · exact h.elim
    · exact h.elim
  case index t x ix =>
    split at h
    · split at h
      · split at h
        · obtain ⟨i, h1, h2⟩ := idx_det _ h
          split at h2
          · obtain ⟨a1, a2, h2⟩ := h2
            split at h2
            · rename_i ha
              exact ⟨_, _, idx_mon _ _ (fun i' hi => by subst hi; refine ⟨a1, a2, ?_⟩; rw [if_pos ha]; exact ⟨h2.1, rfl, rfl⟩) h1, h2.2⟩
            · rename_i ha
              obtain ⟨v, a3, h2⟩ := h2
              exact ⟨_, _, idx_mon _ _ (fun i' hi => by subst hi; refine ⟨a1, a2, ?_⟩; rw [if_neg ha]; exact ⟨v, a3, rfl, rfl⟩) h1, h2⟩
          · exact h2.elim
        · exact h.elim
      · exact h.elim
    · exact h.elim
  case extract x i =>
    split at h
    · split at h
      · exact ⟨_, _, ⟨rfl, rfl⟩, h⟩
      · exact h.elim
    · exact h.elim
  case call cl =>
    split at h
    · exact bltn_det K h
    · split at h
      · rcases h with h | ⟨Hr, r, e, k1, k2, k3, k4, k5⟩
        · obtain ⟨x, y, h1, r, h2, h3⟩ := frzA_det _ _ h
          split at h3
          · rename_i hs
            exact ⟨_, _, .inl <| frzA_mon _ _ _ (fun x' y' hx => by obtain ⟨rfl, rfl⟩ := hx; refine ⟨r, h2, ?_⟩; rw [if_pos hs]; exact ⟨rfl, rfl⟩) h1, h3⟩
          · rename_i hs
            exact ⟨_, _, .inl <| frzA_mon _ _ _ (fun x' y' hx => by obtain ⟨rfl, rfl⟩ := hx; refine ⟨r, h2, ?_⟩; rw [if_neg hs]; exact ⟨rfl, rfl⟩) h1, h3⟩
        · exact ⟨_, _, .inr ⟨Hr, r, e, k1, k2, k3, k4, rfl, rfl⟩, k5⟩
      · exact h.elim
    · exact h.elim
end Go.Pv
