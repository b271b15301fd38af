import Derived.Test.YtgheplondkoedaaPvw
import Derived.LoopN
import Derived.ScopeJumps
namespace Go.Pv
set_option linter.unusedVariables false
set_option linter.unusedSimpArgs false
open Go Go.RowKit
variable {P : Program} {T : Ty} {nt n0 : Nat}

/-! ### What goes through for one end goes through for a wider one -/
theorem ldP_mon {ti : TI} {H : Nat → Option Blk} {p : PV} : Mon (ldP ti H p) := fun K K' hk h => by
  cases p <;> try (exact h.elim)
  case ptr id i j tot =>
    simp only [ldP] at h ⊢
    cases hb : H id with
    | none => rw [hb] at h; exact h.elim
    | some b => rw [hb] at h; exact ⟨h.1, ldC_mon K K' hk h.2⟩
  case rop cs i j => exact ldC_mon K K' hk h
theorem fldP_mon {H : Nat → Option Blk} {off : Nat} {p : PV} : Mon (fldP H off p) := fun K K' hk h => by
  cases p <;> try (exact h.elim)
  case ptr => exact ⟨h.1, hk _ h.2⟩
  case rop => exact hk _ h
theorem ixS_mon {H : Nat → Option Blk} {te : TI} {i : Int} {p : PV} : Mon (ixS H te i p) := fun K K' hk h => by
  cases p <;> try (exact h.elim)
  case ro => exact ⟨h.1, h.2.1, h.2.2.1, hk _ h.2.2.2⟩
  case sl id off m tot =>
    simp only [ixS] at h ⊢
    cases hb : H id with
    | none => rw [hb] at h; exact h.elim
    | some b => rw [hb] at h; exact ⟨h.1, h.2.1, h.2.2.1, h.2.2.2.1, hk _ h.2.2.2.2⟩
  case asl id j m =>
    simp only [ixS] at h ⊢
    cases hb : H id with
    | none => rw [hb] at h; exact h.elim
    | some b => rw [hb] at h; exact ⟨h.1, h.2.1, h.2.2.1, hk _ h.2.2.2⟩
theorem ixA_mon {H : Nat → Option Blk} {m : Nat} {te : TI} {i : Int} {p : PV} : Mon (ixA H m te i p) := fun K K' hk h => by
  cases p <;> try (exact h.elim)
  case ptr => exact ⟨h.1, h.2.1, h.2.2.1, hk _ h.2.2.2⟩
  case rop => exact ⟨h.1, h.2.1, hk _ h.2.2⟩
theorem slP_mon {H : Nat → Option Blk} {te : TI} {l h' : Option Int} {p : PV} : Mon (slP H te l h' p) := fun K K' hk h => by
  cases p <;> try (exact h.elim)
  case ro => exact ⟨h.1, h.2.1, h.2.2.1, h.2.2.2.1, hk _ h.2.2.2.2⟩
  case nil => exact ⟨h.1, h.2.1, hk _ h.2.2⟩
  case sl id off m tot =>
    simp only [slP] at h ⊢
    cases hb : H id with
    | none => rw [hb] at h; exact h.elim
    | some b => rw [hb] at h; exact ⟨h.1, h.2.1, h.2.2.1, h.2.2.2.1, h.2.2.2.2.1, hk _ h.2.2.2.2.2⟩
theorem slA_mon {H : Nat → Option Blk} {m : Nat} {x : Int} {p : PV} : Mon (slA H m x p) := fun K K' hk h => by
  cases p <;> try (exact h.elim)
  rename_i id i j tot
  simp only [slA] at h ⊢
  cases hb : H id with
  | none => rw [hb] at h; exact h.elim
  | some b => rw [hb] at h; exact ⟨h.1, h.2.1, h.2.2.1, h.2.2.2.1, h.2.2.2.2.1, h.2.2.2.2.2.1, hk _ h.2.2.2.2.2.2⟩
theorem sl0_mon {H : Nat → Option Blk} {p : PV} : Mon (sl0 H p) := fun K K' hk h => by
  cases p <;> try (exact h.elim)
  case ro => exact hk _ h
  case nil => exact hk _ h
  case sl id off m tot =>
    simp only [sl0] at h ⊢
    cases hb : H id with
    | none => rw [hb] at h; exact h.elim
    | some b => rw [hb] at h; exact hk _ h
theorem ops2_mon {op : BinOp} {k : IntKind} {a b : Int} : Mon (ops2 op k a b) := fun K K' hk h => by
  cases op <;> simp only [ops2] at h ⊢ <;> first | exact hk _ h | exact ⟨h.1, hk _ h.2⟩
theorem sh2_mon {op : BinOp} {k : IntKind} {a b : Int} : Mon (sh2 op k a b) := fun K K' hk h => by
  cases op <;> simp only [sh2] at h ⊢ <;> exact ⟨h.1, hk _ h.2⟩
theorem bin_mon {xt : TypeId} {op : BinOp} {x y : PV} : Mon (bin T xt op x y) := fun K K' hk h => by
  unfold bin at h ⊢
  split at h
  · split at h
    · exact sh2_mon K K' hk h
    · exact sh2_mon K K' hk h
    · exact ⟨h.1, ops2_mon K K' hk h.2⟩
  · split at h
    · obtain ⟨hk', h⟩ := h
      split at h
      · exact ⟨hk', hk _ h⟩
      · exact ⟨hk', hk _ h⟩
      · exact h.elim
    · exact h.elim
  · split at h
    · exact hk _ h
    · exact hk _ h
    · exact ⟨h.1, hk _ h.2⟩
    · exact h.elim
  · split at h
    · split at h
      · split at h
        · split at h
          · exact hk _ h
          · exact hk _ h
          · exact h.elim
        · exact h.elim
      · exact h.elim
    · exact h.elim
  · exact h.elim
theorem apS_mon {H : Nat → Option Blk} {n : Nat} {e : TypeId} {te : TI} {s x : PV} : Mon2 (apS H n e te s x) := fun K K' hk h => by
  cases s <;> try (exact h.elim)
  case nil cs => exact rdS_mon _ _ (fun c hc => ⟨hc.1, hc.2.1, hc.2.2.1, hk _ _ hc.2.2.2⟩) h
  case sl id off m tot =>
    obtain ⟨e1, e2, h⟩ := h
    simp only [apS]
    refine ⟨e1, e2, ?_⟩
    cases hb : H id with
    | none => rw [hb] at h; exact h.elim
    | some b =>
      rw [hb] at h
      exact ⟨h.1, h.2.1, h.2.2.1, h.2.2.2.1, rdS_mon _ _ (fun c hc => ⟨hc.1, hc.2.1, apC_mon _ _ (fun d hd => hk _ _ hd) hc.2.2⟩) h.2.2.2.2⟩
theorem bltn_mon {ρ : TypeId → Operand → PV} {H : Nat → Option Blk} {n : Nat} {b : Builtin} {args : List Operand} {ts : List TypeId} : Mon2 (bltn T ρ H n b args ts) := fun K K' hk h => by
  unfold bltn at h ⊢
  split at h
  · split at h
    · split at h <;> first | exact hk _ _ h | exact h.elim
    · exact h.elim
  · split at h
    · exact mxF_mon _ _ _ _ (fun v hv => hk _ _ hv) h
    · exact h.elim
  · split at h
    · exact mxF_mon _ _ _ _ (fun v hv => hk _ _ hv) h
    · exact h.elim
  · obtain ⟨e1, h⟩ := h
    split at h
    · exact h.elim
    · split at h
      · split at h
        · exact h.elim
        · exact ⟨e1, h.1, apS_mon _ _ hk h.2⟩
      · exact h.elim
  · exact h.elim

theorem opv_mon {o : Oper} {ρ : TypeId → Operand → PV} {H : Nat → Option Blk} {n : Nat} : Mon2 (opv P T o ρ H n) := fun K K' hk h => by
  cases hop : o.op <;> simp only [opv, hop] at h ⊢ <;> try (exact h.elim)
  case move x => exact hk _ _ h
  case assign x => exact hk _ _ h
  case pick c x y =>
    split at h
    · exact ⟨fun e => hk _ _ (h.1 e), fun e => hk _ _ (h.2 e)⟩
    · exact h.elim
  case alloc e =>
    split at h
    · split at h
      · exact ⟨h.1, hk _ _ h.2⟩
      · exact h.elim
    · exact h.elim
  case box e x =>
    split at h
    · exact ⟨h.1, hk _ _ h.2⟩
    · exact h.elim
  case build t parts =>
    split at h
    · split at h
      · split at h
        · exact fillP_mon _ _ _ _ (fun c hc => hk _ _ hc) h
        · split at h
          · exact fillP_mon _ _ _ _ (fun c hc => hk _ _ hc) h
          · exact h.elim
        · exact h.elim
      · exact h.elim
    · exact h.elim
  case buildSlice t len parts =>
    split at h
    · split at h
      · split at h
        · obtain ⟨a1, a2, a3, h⟩ := h
          split at h
          · refine ⟨a1, a2, a3, fillP_mon _ _ _ _ (fun c hc => ⟨hc.1, mvL_mon _ _ _ _ (fun x y hx => ?_) hc.2⟩) h⟩
            split at hx
            · exact hx.imp (hk _ _) (hk _ _)
            · exact hx.elim
          · exact h.elim
        · exact h.elim
      · exact h.elim
    · exact h.elim
  case load t x =>
    split at h
    · exact ldP_mon _ _ (fun v hv => hk _ _ hv) h
    · exact h.elim
  case store t x y =>
    split at h
    · split at h
      · split at h
        · obtain ⟨a1, h⟩ := h
          split at h
          · obtain ⟨a2, a3, h1, h2⟩ := h
            exact ⟨a1, a2, a3, fun e => stC_mon _ _ (fun c hc => hk _ _ hc) (h1 e), fun e => mvL_mon _ _ _ _ (fun x y hx => ⟨hx.1, stC_mon _ _ (fun c hc => hk _ _ hc) hx.2⟩) (h2 e)⟩
          · exact h.elim
        · exact h.elim
      · exact h.elim
    · exact h.elim
  case nilCheck x =>
    split at h <;> first | exact ⟨h.1, hk _ _ h.2⟩ | exact hk _ _ h | exact h.elim
  case binOp op t x y u => exact bin_mon _ _ (fun v hv => hk _ _ hv) h
  case unOp op t x => split at h <;> first | exact hk _ _ h | exact h.elim
  case convert s d x =>
    split at h
    · split at h
      · split at h
        · exact hk _ _ h
        · exact h.elim
      · split at h
        · split at h
          · refine ⟨h.1, rdS_mon _ _ (fun c hc => ?_) h.2⟩
            split at hc
            · exact hk _ _ hc
            · exact hk _ _ hc
            · exact hc.elim
          · exact h.elim
        · exact h.elim
      · exact h.elim
    · exact h.elim
  case makeFunc fn first caps => split at h <;> first | exact ⟨h.1, hk _ _ h.2⟩ | exact h.elim
  case makeSlice t l cp =>
    split at h
    · split at h
      · split at h
        · refine idx_mon _ _ (fun i hi => idx_mon _ _ (fun j hj => ?_) hi) h
          obtain ⟨a1, a2, a3, a4, a5, hj⟩ := hj
          refine ⟨a1, a2, a3, a4, a5, ?_⟩
          split at hj
          · obtain ⟨a6, hj⟩ := hj
            refine ⟨a6, ?_⟩
            split at hj
            · exact ⟨hj.1, hj.2.imp (hk _ _) (hk _ _)⟩
            · exact hj.elim
            · split at hj
              · exact hj.imp (hk _ _) (hk _ _)
              · exact hj.elim
          · exact hj.elim
        · exact h.elim
      · exact h.elim
    · exact h.elim
  case slice t x lo hi mx =>
    split at h
    · split at h
      · split at h
        · split at h
          · exact ⟨h.1, h.2.1, h.2.2.1, sl0_mon _ _ (fun v hv => hk _ _ hv) h.2.2.2⟩
          · exact oidx_mon _ _ (fun l hl => oidx_mon _ _ (fun m hm => slP_mon _ _ (fun v hv => hk _ _ hv) hm) hl) h
        · exact h.elim
      · exact ⟨h.1, h.2.1, h.2.2.1, oidx_mon _ _ (fun m hm => slA_mon _ _ (fun v hv => hk _ _ hv) hm) h.2.2.2⟩
      · exact h.elim
    · exact h.elim
  case fieldAddr t x f =>
    split at h
    · split at h
      · split at h
        · exact ⟨h.1, fldP_mon _ _ (fun v hv => hk _ _ hv) h.2⟩
        · exact h.elim
      · exact h.elim
    · exact h.elim
  case indexAddr t x ix =>
    split at h
    · split at h
      · split at h
        · exact h.elim
        · exact idx_mon _ _ (fun i hi => ixS_mon _ _ (fun v hv => hk _ _ hv) hi) h
      · split at h
        · exact h.elim
        · exact idx_mon _ _ (fun i hi => ixA_mon _ _ (fun v hv => hk _ _ hv) hi) h
      · exact h.elim
    · exact h.elim
  case index t x ix =>
    split at h
    · split at h
      · split at h
        · refine idx_mon _ _ (fun i hi => ?_) h
          split at hi
          · refine ⟨hi.1, hi.2.1, ?_⟩
            have hi := hi.2.2
            split at hi
            · rename_i ha; rw [if_pos ha]; exact ⟨hi.1, hk _ _ hi.2⟩
            · rename_i ha; rw [if_neg ha]; obtain ⟨v, a3, h2⟩ := hi; exact ⟨v, a3, hk _ _ h2⟩
          · exact hi.elim
        · exact h.elim
      · exact h.elim
    · exact h.elim
  case extract x i =>
    split at h
    · split at h
      · exact hk _ _ h
      · exact h.elim
    · exact h.elim
  case call cl =>
    split at h
    · exact bltn_mon _ _ hk h
    · split at h
      · rcases h with h | ⟨Hr, r, e, k1, k2, k3, k4, k5⟩
        · refine .inl (frzA_mon _ _ _ (fun x y hx => ?_) h)
          obtain ⟨r, h2, h3⟩ := hx
          refine ⟨r, h2, ?_⟩
          split at h3
          · rename_i hs; rw [if_pos hs]; exact hk _ _ h3
          · rename_i hs; rw [if_neg hs]; exact hk _ _ h3
        · exact .inr ⟨Hr, r, e, k1, k2, k3, k4, hk _ _ k5⟩
      · exact h.elim
    · exact h.elim
theorem step1_mon {o : Oper} {tm : Nat → PV} {H : Nat → Option Blk} {n : Nat} {b : Bool} : Mon2 (step1 P T o tm H n b) := fun K K' hk h => by
  unfold step1 at h ⊢
  split at h
  · split at h
    · exact ⟨h.1, h.2.1, h.2.2.1, hk _ _ h.2.2.2⟩
    · exact ⟨h.1, opv_mon _ _ hk h.2⟩
  · exact ⟨h.1, opv_mon _ _ hk h.2⟩
theorem gd_mon {ops : List Oper} {o : Oper} {tm : Nat → PV} : Mon (gd ops o tm) := fun K K' hk h => by
  unfold gd at h ⊢
  split at h
  · exact hk _ h
  · split at h
    · split at h
      · exact hk _ h
      · exact hk _ h
      · exact h.elim
    · exact h.elim

/-! ### A region in parts -/
theorem runs_app {all : List Oper} {K : St → Prop} : ∀ (l1 l2 : List Oper) (st : St), runs P T nt all l1 st (fun st' => runs P T nt all l2 st' K) → runs P T nt all (l1 ++ l2) st K
  | [], l2, st, h => h
  | o :: l1, l2, st, h => by
    rw [List.cons_append]
    refine gd_mon _ _ (fun b h1 => ?_) h
    split at h1
    · exact step1_mon _ _ (fun pv eff h2 => runs_app l1 l2 _ h2) h1
    · split at h1
      · exact ⟨h1.1, runs_app l1 l2 _ h1.2⟩
      · rcases h1 with ⟨v, h2, h3⟩ | ⟨v, E, h2, h3, h4⟩
        · exact .inl ⟨v, h2, runs_app l1 l2 _ h3⟩
        · exact .inr ⟨v, E, h2, h3, runs_app l1 l2 _ h4⟩
theorem runs_mon {all : List Oper} {K K' : St → Prop} (hk : ∀ st, K st → K' st) : ∀ (l : List Oper) (st : St), runs P T nt all l st K → runs P T nt all l st K'
  | [], st, h => hk _ h
  | o :: l1, st, h => by
    refine gd_mon _ _ (fun b h1 => ?_) h
    split at h1
    · exact step1_mon _ _ (fun pv eff h2 => runs_mon hk l1 _ h2) h1
    · split at h1
      · exact ⟨h1.1, runs_mon hk l1 _ h1.2⟩
      · rcases h1 with ⟨v, h2, h3⟩ | ⟨v, E, h2, h3, h4⟩
        · exact .inl ⟨v, h2, runs_mon hk l1 _ h3⟩
        · exact .inr ⟨v, E, h2, h3, runs_mon hk l1 _ h4⟩
theorem runs_cut {all l : List Oper} {K : St → Prop} {st : St} (k : Nat) (h : ∀ K' : St → Prop, (∀ st', runs P T nt all (l.drop k) st' K → K' st') → runs P T nt all (l.take k) st K') : runs P T nt all l st K := by
  rw [← List.take_append_drop k l]
  exact runs_app _ _ _ (h _ fun st' h => h)
theorem runD_app {all : List Oper} {K : Fp → List (Nat × PV) → List (Nat × Option Blk) → Nat → Prop} : ∀ (l1 l2 : List Oper) (n : Nat) (tm : List (Nat × PV)) (H : List (Nat × Option Blk)) (fp : Fp), runD P T nt all l1 n tm H fp (fun fp tm H n => runD P T nt all l2 n tm H fp K) → runD P T nt all (l1 ++ l2) n tm H fp K
  | [], l2, n, tm, H, fp, h => h
  | o :: l1, l2, n, tm, H, fp, h => by
    rw [List.cons_append]
    refine gd_mon _ _ (fun b h1 => ?_) h
    split at h1
    · exact step1_mon _ _ (fun pv eff h2 => runD_app l1 l2 _ _ _ _ h2) h1
    · split at h1
      · exact ⟨h1.1, runD_app l1 l2 _ _ _ _ h1.2⟩
      · obtain ⟨v, h2, h3⟩ := h1
        exact ⟨v, h2, runD_app l1 l2 _ _ _ _ h3⟩
theorem runD_cut {all l : List Oper} {K : Fp → List (Nat × PV) → List (Nat × Option Blk) → Nat → Prop} {n : Nat} {tm : List (Nat × PV)} {H : List (Nat × Option Blk)} {fp : Fp} (k : Nat)
    (h : ∀ K' : Fp → List (Nat × PV) → List (Nat × Option Blk) → Nat → Prop, (∀ fp tm H n, runD P T nt all (l.drop k) n tm H fp K → K' fp tm H n) → runD P T nt all (l.take k) n tm H fp K') : runD P T nt all l n tm H fp K := by
  rw [← List.take_append_drop k l]
  exact runD_app _ _ _ _ _ _ (h _ fun _ _ _ _ h => h)

/-! ### A choice -/
def cnd (tm : Nat → PV) (x : Operand) (K : Bool → Prop) : Prop := match ev (fun _ => none) tm 0 x with
  | .bool t => K t
  | _ => False
theorem swp_if {Q : Exit → St → Prop} {st : St} {x : Operand} {c d : Code} (h : ∀ K : Bool → Prop, (∀ t, (t = true → SWp P nt n0 c Q st) → (t = false → SWp P nt n0 d Q st) → K t) → cnd (getT st.tm) x K) : SWp P nt n0 (.cond x c d) Q st := by
  have := h (fun t => (t = true → SWp P nt n0 c Q st) ∧ (t = false → SWp P nt n0 d Q st)) fun t h1 h2 => ⟨h1, h2⟩
  unfold cnd at this
  split at this
  · rename_i t ht
    exact swp_cond ht this.1 this.2
  · exact this.elim

/-- A loop, round by round: so many at most. -/
def SRnd (P : Program) (nt n0 : Nat) (c : Code) (Q : Exit → St → Prop) : Nat → St → Prop
  | 0, _ => False
  | n + 1, st => SWp P nt n0 c (thn (SRnd P nt n0 c Q n) Q) st
theorem srnd {Q : Exit → St → Prop} {st : St} {c : Code} {n : Nat} (h : ∀ K : St → Prop, (∀ st', SRnd P nt n0 c Q n st' → K st') → SWp P nt n0 c (thn K Q) st) : SRnd P nt n0 c Q (n + 1) st := h _ fun _ h => h
theorem swp_rounds {Q : Exit → St → Prop} {st : St} {c : Code} (n : Nat) (h : SRnd P nt n0 c Q n st) : SWp P nt n0 (.loop c) Q st := fun S B W0 a w hs => by
  refine wp_loop_rounds n ?_
  have key : ∀ n st a w, SRnd P nt n0 c Q n st → Sim S B nt W0 st a w → Code.rounds P c (fun e a' w' => ∃ st', Q e st' ∧ Sim S B nt W0 st' a' w') n a w := by
    intro n
    induction n with
    | zero => intro st a w h _; exact h.elim
    | succ n ih =>
      intro st a w h hs
      rw [rounds_succ]
      refine wp_mono (h S B W0 a w hs) ?_
      rintro e a' w' ⟨st', h1, h2⟩
      cases e with
      | normal => exact ih st' a' w' h1 h2
      | _ => exact ⟨st', h1, h2⟩
  exact key n st a w h hs

/-! ### An empty slice may be taken for an own row -/
theorem swp_own {Q : Exit → St → Prop} {st : St} {c : Code} (t : Nat) {cs : Cells} (e : TypeId) (ht : getT st.tm t = .nil cs) (hl : cs.len = 0) (h : SWp P nt n0 c Q ⟨(t, .sl st.n 0 0 0) :: st.tm, (st.n, some ⟨cs, false, e⟩) :: st.H, st.n + 1⟩) : SWp P nt n0 c Q st := fun S B W0 a w hs => by
  refine h S B W0 a w ?_
  obtain ⟨cx, rfl, hH, hok, hfresh, hrep, hsz, hdef, hbel, hS⟩ := hs
  obtain ⟨c', h1, h2, hp⟩ := post_new (V' := .slice none 0 0) (blk' := ⟨cs, false, e⟩) (id := st.n) (w' := cx.w) hok (hfresh st.n (Nat.le_refl _)) ⟨rfl, rfl, rfl, Nat.le_refl _, fun _ _ _ => rfl⟩ (fun g hg => by simp [blkOf] at hg) (fun c' _ hw => by
    unfold BlkOk
    exact ⟨[], ⟨by simp [hl], .inl ⟨rfl, hl⟩⟩, by simp [hl], fun i j hi => by rw [hl] at hi; omega⟩)
  refine ⟨c', h1, ?_, hp.heap, fun id hid hA => ?_, fun t' => ?_, hsz, hdef, by rw [← h1]; exact hbel.trans hp.below, hS.post hp⟩
  · rw [hp.H, hH]
    funext i
    show put (getH st.H) st.n _ i = _
    simp only [put_at, getH]
  · have hid' : st.n + 1 ≤ id := hid
    rcases (hp.A id).1 hA with h | h
    · exact hfresh id (by omega) h
    · simp at h; omega
  · show Rep c' false (if t = t' then .sl st.n 0 0 0 else getT st.tm t') _
    by_cases htt : t = t'
    · subst htt
      rw [if_pos rfl]
      have hr := hrep t
      rw [ht] at hr
      have hA : c'.A st.n := (hp.A st.n).2 (.inr (by simp))
      generalize a.tmps.getD t undef = v at hr
      cases hr with
      | nil _ _ A _ =>
        refine .sl st.n 0 0 0 _ hA ⟨A, 0, rfl, Nat.le_refl _⟩ fun blk hb => ?_
        have hb' : (⟨cs, false, e⟩ : Blk) = blk := by
          rw [hp.H] at hb
          have : put cx.H st.n (some ⟨cs, false, e⟩) st.n = some blk := hb
          rw [put_same] at this
          cases this; rfl
        subst hb'
        refine ⟨rfl, by show 0 ≤ cs.len; omega, fun _ => ⟨Nat.le_refl _, fun _ => .inr ⟨?_, A, rfl⟩, fun h => .inl rfl⟩⟩
        rw [h2, put_same]
    · rw [if_neg htt]
      exact (hrep t').mono hp.le

/-- The same of an empty slice in a box. -/
theorem swp_ownb {Q : Exit → St → Prop} {st : St} {c : Code} (bid j : Nat) (e : TypeId) {wd : Nat} {row : List PV} {be : TypeId} {cs : Cells} (hb : getH st.H bid = some ⟨.rows wd [row], true, be⟩) (hj : row[j]? = some (.nil cs)) (hl : cs.len = 0)
    (h : SWp P nt n0 c Q ⟨st.tm, (bid, some ⟨.rows wd [row.set j (.sl st.n 0 0 0)], true, be⟩) :: (st.n, some ⟨cs, false, e⟩) :: st.H, st.n + 1⟩) : SWp P nt n0 c Q st := fun S B W0 a w hs => by
  refine h S B W0 a w ?_
  obtain ⟨cx, rfl, hH, hok, hfresh, hrep, hsz, hdef, hbel, hS⟩ := hs
  have hbx : cx.H bid = some ⟨.rows wd [row], true, be⟩ := by rw [hH]; exact hb
  have hAb := (hok.ok bid _ hbx).1
  have hne : bid ≠ st.n := fun he => hfresh st.n (Nat.le_refl _) (he ▸ hAb)
  obtain ⟨c', h1, h2, hp⟩ := post_new (V' := .slice none 0 0) (blk' := ⟨cs, false, e⟩) (id := st.n) (w' := cx.w) hok (hfresh st.n (Nat.le_refl _)) ⟨rfl, rfl, rfl, Nat.le_refl _, fun _ _ _ => rfl⟩ (fun g hg => by simp [blkOf] at hg) (fun c' _ hw => by
    unfold BlkOk
    exact ⟨[], ⟨by simp [hl], .inl ⟨rfl, hl⟩⟩, by simp [hl], fun i j hi => by rw [hl] at hi; omega⟩)
  have hHn : c'.H st.n = some ⟨cs, false, e⟩ := by
    rw [hp.H]
    exact put_same _ _ _
  have hHb : c'.H bid = some ⟨.rows wd [row], true, be⟩ := by
    rw [hp.H]
    have : put cx.H st.n (some ⟨cs, false, e⟩) bid = some ⟨.rows wd [row], true, be⟩ := by rw [put_ne _ _ (Ne.symm hne)]; exact hbx
    exact this
  have hA : c'.A st.n := (hp.A st.n).2 (.inr (by simp))
  have hsl : ∀ v, Rep c' false (.nil cs) v → Rep c' false (.sl st.n 0 0 0) v := fun v hr => by
    cases hr with
    | nil _ _ A _ =>
      refine .sl st.n 0 0 0 _ hA ⟨A, 0, rfl, Nat.le_refl _⟩ fun blk hb => ?_
      rw [hHn] at hb
      cases hb
      refine ⟨rfl, by show 0 ≤ cs.len; omega, fun _ => ⟨Nat.le_refl _, fun _ => .inr ⟨?_, A, rfl⟩, fun h => .inl rfl⟩⟩
      rw [h2, put_same]
  obtain ⟨c2, k1, k2, kp⟩ := post_upd (V' := c'.loc bid) (blk' := ⟨.rows wd [row.set j (.sl st.n 0 0 0)], true, be⟩) (id := bid) (w' := c'.w) hp.heap hHb (World.grownBy.refl c'.w _) (Nat.le_refl _) rfl rfl (fun _ => rfl) (fun g hg => .inl hg) (fun c2 hle hw => by
    have hbo := (hp.heap.ok bid _ hHb).2
    unfold BlkOk at hbo ⊢
    rw [if_pos rfl] at hbo ⊢
    obtain ⟨g, vs, T', e1, e2, e3, e4, e5⟩ := hbo
    refine ⟨g, vs, T', e1, e2, by show c2.w.heap[g]? = _; rw [hw]; exact e3, e4, fun i j' hi hj' => ?_⟩
    obtain ⟨v, f1, f2, f3⟩ := e5 i j' hi hj'
    refine ⟨v, f1, ?_, f3⟩
    have hi0 : i = 0 := by have : i < 1 := hi; omega
    subst hi0
    have g1 : (Cells.rows wd [row]).get 0 j' = row.getD j' .any := rfl
    have g2 : (Cells.rows wd [row.set j (.sl st.n 0 0 0)]).get 0 j' = (row.set j (.sl st.n 0 0 0)).getD j' .any := rfl
    rw [g1] at f2
    rw [g2]
    by_cases hjj : j = j'
    · subst hjj
      have hjl : j < row.length := (List.getElem?_eq_some_iff.1 hj).1
      rw [List.getD_eq_getElem?_getD, hj] at f2
      rw [List.getD_eq_getElem?_getD, List.getElem?_set_self hjl]
      exact (hsl v f2).mono hle
    · rw [List.getD_eq_getElem?_getD, List.getElem?_set_ne hjj, ← List.getD_eq_getElem?_getD]
      exact f2.mono hle)
  refine ⟨c2, k1.trans h1, ?_, kp.heap, fun id hid hA => ?_, fun t' => ((hrep t').mono hp.le).mono kp.le, hsz, hdef, by rw [← h1, ← k1]; exact (hbel.trans hp.below).trans kp.below, (hS.post hp).post kp⟩
  · rw [kp.H, hp.H, hH]
    funext i
    show put (put (getH st.H) st.n _) bid _ i = _
    simp only [put_at, getH]
  · have hid' : st.n + 1 ≤ id := hid
    rcases (kp.A id).1 hA with h | h
    · rcases (hp.A id).1 h with h | h
      · exact hfresh id (by omega) h
      · simp at h; omega
    · simp at h
      rw [h] at hid'
      exact hfresh bid (by omega) hAb

/-! ### Own blocks may be given up: what they hold is read from now on -/
theorem zip_get {c c' : Cx} {a : Act} {tm : List (Nat × PV)} (h0 : ∀ t, Rep c' false (getT tm t) (a.tmps.getD t undef)) : ∀ (ts : List Nat) (ps : List PV), RepL c' false ps (ts.map fun t => a.tmps.getD t undef) → ∀ t, Rep c' false (getT (ts.zip ps ++ tm) t) (a.tmps.getD t undef)
  | [], ps, _, t => h0 t
  | t1 :: ts, [], h, t => absurd h.1 (by simp)
  | t1 :: ts, p :: ps, h, t => by
    obtain ⟨u, us, he, hp, hr⟩ := h.uncons
    rw [List.map_cons] at he
    obtain ⟨rfl, rfl⟩ := List.cons.inj he
    show Rep c' false (if t1 = t then p else getT (ts.zip ps ++ tm) t) _
    split
    · rename_i e; subst e; exact hp
    · exact zip_get (c := c) h0 ts ps hr t
theorem swp_frz {Q : Exit → St → Prop} {st : St} {c : Code} (ts : List Nat) {ps : List PV} {is : List Nat} (hf : frzA (getH st.H) (ts.map (getT st.tm)) fun ps' is' => ps' = ps ∧ is' = is)
    (h : SWp P nt n0 c Q ⟨ts.zip ps ++ st.tm, onL (kills is) st.H, st.n⟩) : SWp P nt n0 c Q st := fun S B W0 a w hs => by
  refine h S B W0 a w ?_
  obtain ⟨cx, rfl, hH, hok, hfresh, hrep, hsz, hdef, hbel, hS⟩ := hs
  rw [← hH] at hf
  have hrl : RepL cx false (ts.map (getT st.tm)) (ts.map fun t => a.tmps.getD t undef) := by
    refine ⟨by simp, fun i p u h1 h2 => ?_⟩
    rw [List.getElem?_map] at h1 h2
    cases ht : ts[i]? with
    | none => rw [ht] at h1; cases h1
    | some t => rw [ht] at h1 h2; cases h1; cases h2; exact hrep t
  obtain ⟨ps', is', ⟨rfl, rfl⟩, hA, hl⟩ := frzA_ok hok _ _ _ hrl hf
  have hA' : ∀ id ∈ is', cx.A id := fun id hi => let ⟨b, hb⟩ := hA id hi; (hok.ok id b hb).1
  obtain ⟨c', h1, h2, hp, h4, h5⟩ := kills_ok is' cx hok hA'
  have hl' := hl c'.ow h4 fun id hi g hg => let ⟨b, hb⟩ := hA id hi; h5 id hi b g hb hg
  refine ⟨c', h1, ?_, hp.heap, fun id hid hh => ?_, ?_, hsz, hdef, by rw [← h1]; exact hbel.trans hp.below, hS.post hp⟩
  · rw [hp.H, hH]
    exact (getH_on _ _).symm
  · rcases (hp.A id).1 hh with h | h
    · exact hfresh id hid h
    · refine hfresh id hid (hA' id ?_)
      simp only [kills, List.map_map, List.mem_map] at h
      obtain ⟨i, hi, rfl⟩ := h
      exact hi
  · refine zip_get (c := cx) (fun t => (hrep t).mono hp.le) ts ps' ⟨hl'.1, fun i p u h1' h2' => ?_⟩
    refine (@Rep.bare (see c'.ow cx.w) c' (fun b hb hlt => ⟨hb, by rw [h1]; exact hlt, fun _ => by rw [h1]; rfl⟩) true rfl _ _ (hl'.2 i p u h1' h2')).loose

/-! ### A scope with a label to which the run jumps back -/
def jmp (l : Nat) (K : St → Prop) (Q : Exit → St → Prop) : Exit → St → Prop
  | .goto l', st => l' = l ∧ K st
  | e, st => Q e st
theorem least {p : Nat → Prop} : ∀ m, p m → ∃ m, p m ∧ ∀ k, p k → m ≤ k := by
  intro m
  induction m using Nat.strongRecOn with
  | _ m ih =>
    intro h
    by_cases hk : ∃ k, k < m ∧ p k
    · obtain ⟨k, h1, h2⟩ := hk
      exact ih k h1 h2
    · exact ⟨m, h, fun k hp => Nat.le_of_not_lt fun hlt => hk ⟨k, hlt, hp⟩⟩
theorem swp_label {Q : Exit → St → Prop} {st : St} {l : Nat} (h : Q .normal st) : SWp P nt n0 (.label l) Q st := fun S B W0 a w hs => wp_label ⟨st, h, hs⟩
theorem swp_goto {Q : Exit → St → Prop} {st : St} {l : Nat} (h : Q (.goto l) st) : SWp P nt n0 (.goto l) Q st := fun S B W0 a w hs => wp_goto ⟨st, h, hs⟩
theorem swp_scope {Q : Exit → St → Prop} {st : St} {c rest : Code} (l k : Nat) (I : Nat → St → Prop) (hf : findLabel c l = some rest)
    (first : ∀ K : St → Prop, (∀ s1 s2 m, I m s2 → Weak n0 k s1 s2 → K s1) → SWp P nt n0 c (jmp l K Q) st)
    (pass : ∀ m s, I m s → ∀ K : St → Prop, (∀ s1 s2 m', m' < m → I m' s2 → Weak n0 k s1 s2 → K s1) → SWp P nt n0 rest (jmp l K Q) s) : SWp P nt n0 (.scope c) Q st := fun S B W0 a w hs => by
  let J : Nat → Act → World → Prop := fun m a w => ∃ s, I m s ∧ Sim S B nt W0 s a w
  have hmin : ∀ a w, (∃ m, J m a w) → ∃ m, J m a w ∧ ∀ k, J k a w → m ≤ k := fun a w ⟨m, h⟩ => least m h
  let μ : Act → World → Nat := fun a w => @dite _ (∃ m, J m a w) (Classical.propDecidable _) (fun h => Classical.choose (hmin a w h)) fun _ => 0
  have hμ : ∀ a w, (h : ∃ m, J m a w) → J (μ a w) a w ∧ ∀ k, J k a w → μ a w ≤ k := fun a w h => by
    have : μ a w = Classical.choose (hmin a w h) := dif_pos h
    rw [this]
    exact Classical.choose_spec (hmin a w h)
  refine wp_scope_jumps l (fun a w => ∃ m, J m a w) μ hf (wp_mono (first (fun s1 => ∃ s2 m, I m s2 ∧ Weak n0 k s1 s2) (fun s1 s2 m h1 h2 => ⟨s2, m, h1, h2⟩) S B W0 a w hs) ?_) ?_
  · rintro e a' w' ⟨s1, h1, h2⟩
    cases e with
    | goto l' =>
      obtain ⟨rfl, s2, m, h3, h4⟩ := h1
      exact ⟨rfl, m, s2, h3, weak_ok h2 h4⟩
    | _ => exact ⟨s1, h1, h2⟩
  · intro a1 w1 hJ
    obtain ⟨⟨s, hI, hs⟩, hle⟩ := hμ a1 w1 hJ
    refine wp_mono (pass _ s hI (fun s1 => ∃ s2 m', m' < μ a1 w1 ∧ I m' s2 ∧ Weak n0 k s1 s2) (fun s1 s2 m' h1 h2 h3 => ⟨s2, m', h1, h2, h3⟩) S B W0 a1 w1 hs) ?_
    rintro e a' w' ⟨s1, h1, h2⟩
    cases e with
    | goto l' =>
      obtain ⟨rfl, s2, m', h3, h4, h5⟩ := h1
      have hj : J m' a' w' := ⟨s2, h4, weak_ok h2 h5⟩
      exact ⟨rfl, ⟨m', hj⟩, Nat.lt_of_le_of_lt ((hμ a' w' ⟨m', hj⟩).2 m' hj) h3⟩
    | _ => exact ⟨s1, h1, h2⟩
/-- 'is it nil?', of a slice that is read: what is empty may be, what holds something is not. -/
theorem swp_isnil (hT : TyOk P T) {Q : Exit → St → Prop} {st : St} {id d b : Nat} {x : Operand} {t e u : TypeId} {ti : TI} {cs : Cells} (ht : T t = some ti) (hk : ti.k = .slice e) (hx : ev T (getT st.tm) t x = .ro cs)
    (hd : d < nt) (hb : b < nt) (h : ∀ v : Bool, (v = true → cs.len = 0) → Q .normal ⟨(b, .bool v) :: (d, .ro cs) :: st.tm, st.H, st.n⟩)
    {o1 o2 : Oper} (h1 : o1.op = .move x ∧ o1.dst = some d ∧ o1.type = t ∧ o1.guard = none) (h2 : o2.op = .binOp .eql t (.tmp d) (.const (.slice none 0 0)) u ∧ o2.dst = some b ∧ o2.guard = none) : SWp P nt n0 (.region id #[o1, o2] false) Q st := fun S B W0 a w hs => by
  obtain ⟨cx, rfl, hH, hok, hfresh, hrep, hsz, hdef, hbel, hS⟩ := hs
  have hv := ev_ok (c := cx) (a := a) hT hrep t x
  rw [hx] at hv
  have hu := (hT.slice t ti e ht hk).1
  obtain ⟨A, n, cp, hvv, hnil⟩ : ∃ A n cp, a.eval x = .slice A n cp ∧ (A = none → cs.len = 0) := by
    generalize a.eval x = v at hv
    cases hv with
    | ro0 _ _ A cp h0 => exact ⟨A, 0, cp, rfl, fun _ => h0⟩
    | ro _ _ b off cp f h0 => exact ⟨_, _, cp, rfl, fun h => by cases h⟩
  refine wp_region_list ?_
  have w1 : ∀ a' : Act, Region.wanted o1 (yielded #[o1, o2] a'.tmps) = true := fun a' => by simp [Region.wanted, h1.2.2.2]
  have w2 : ∀ a' : Act, Region.wanted o2 (yielded #[o1, o2] a'.tmps) = true := fun a' => by simp [Region.wanted, h2.2.2]
  have r1 : (execOp a.eval o1).run P cx.w = .ok (.value (.slice A n cp)) cx.w := by simp [execOp, h1.1, hvv]
  let a1 := a.put (some d) (.slice A n cp)
  have hrep1 : ∀ t, Rep cx false (getT ((d, .ro cs) :: st.tm) t) (a1.tmps.getD t undef) := fun t' => by
    have := put_rep (nt := nt) hrep hsz (some d) (pv := .ro cs) (v := .slice A n cp) (by rw [← hvv]; exact hv) t'
    simpa [putT, hd] using this
  have e1 : a1.eval (.tmp d) = .slice A n cp := by
    show (a.put (some d) (.slice A n cp)).tmps.getD d undef = _
    have : d < a.tmps.size := by omega
    simp [Act.put, this]
  have hg : (eqGuard .eql t (.tmp d) (.const (.slice none 0 0)) (.slice A n cp) (.slice none 0 0)).run P cx.w = .ok () cx.w := by
    unfold eqGuard
    simp [Sem.run_bind, hu]
  have hq : (Op.equal t (.slice A n cp) (.slice none 0 0)).run P cx.w = .ok A.isNone cx.w := by
    unfold Op.equal Op.maxDepth Op.equalIn
    cases A <;> simp [run_underlying hu]
  have r2 : (execOp a1.eval o2).run P cx.w = .ok (.value (.bool A.isNone)) cx.w := by
    have ec : a1.eval (.const (.slice none 0 0)) = .slice none 0 0 := rfl
    simp only [execOp, h2.1, e1, ec, binOp, Sem.run_bind, hg, Result.andThen_ok, hq, Sem.run_pure]
  unfold wpList
  rw [if_pos (w1 a)]
  refine .inl ?_
  unfold Oper.wp
  rw [r1]
  show wpList P _ _ [o2] (a.put o1.dst (.slice A n cp)) cx.w
  rw [h1.2.1]
  show wpList P _ _ [o2] a1 cx.w
  unfold wpList
  rw [if_pos (w2 a1)]
  refine .inl ?_
  unfold Oper.wp
  rw [r2]
  show (fun e a' w' => ∃ st', Q e st' ∧ Sim S B nt W0 st' a' w') Exit.normal (a1.put o2.dst (.bool A.isNone)) cx.w
  rw [h2.2.1]
  have hsz1 : a1.tmps.size = nt := by rw [show a1 = a.put (some d) (.slice A n cp) from rfl, put_size]; exact hsz
  refine ⟨_, h A.isNone (fun hn => hnil (by simpa using hn)), cx, rfl, hH, hok, hfresh, fun t' => ?_, by rw [put_size]; exact hsz1, by rw [put_defers]; exact hdef, hbel, hS⟩
  have := put_rep (nt := nt) hrep1 hsz1 (some b) (pv := .bool A.isNone) (v := .bool A.isNone) (.bool ..) t'
  simpa [putT, hb] using this
end Go.Pv
