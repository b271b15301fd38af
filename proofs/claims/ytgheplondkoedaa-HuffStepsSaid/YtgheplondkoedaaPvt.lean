import Derived.Test.YtgheplondkoedaaPvo
namespace Go.Pv
set_option linter.unusedVariables false
set_option linter.unusedSimpArgs false
open Go Go.RowKit
variable {P : Program} {T : Ty} {o : Oper} {n : Nat} {K : PV → Eff → Prop}

def optL : Option Operand → List Operand
  | none => []
  | some x => [x]
def opnds : Op → List Operand
  | .move x | .assign x | .box _ x | .load _ x | .nilCheck x | .unOp _ _ x | .convert _ _ x | .fieldAddr _ x _ | .extract x _ => [x]
  | .pick c x y => [c, x, y]
  | .store _ x y | .binOp _ _ x y _ | .makeSlice _ x y | .indexAddr _ x y | .index _ x y => [x, y]
  | .build _ ps | .buildSlice _ _ ps => ps.toList.map (·.2)
  | .makeFunc _ _ caps => caps.toList
  | .slice _ x lo hi mx => x :: (optL lo ++ optL hi ++ optL mx)
  | .call c => (match c.callee with | .value f => [f] | _ => []) ++ c.args.toList
  | _ => []

theorem argsP_congr {ρ ρ' : TypeId → Operand → PV} : ∀ (xs : List Operand) (ts : List TypeId), (∀ t, ∀ x ∈ xs, ρ t x = ρ' t x) → argsP ρ xs ts = argsP ρ' xs ts
  | [], _, _ => rfl
  | x :: xs, [], h => by simp only [argsP]; rw [h 0 x (by simp), argsP_congr xs [] fun t y hy => h t y (List.mem_cons_of_mem _ hy)]
  | x :: xs, t :: ts, h => by simp only [argsP]; rw [h t x (by simp), argsP_congr xs ts fun t y hy => h t y (List.mem_cons_of_mem _ hy)]
theorem fillP_congr {ρ ρ' : TypeId → Operand → PV} {pl : Nat → Option (Nat × Nat × TypeId)} {K : List PV → Prop} : ∀ (ps : List (Nat × Operand)) (cells : List PV), (∀ t, ∀ x ∈ ps.map (·.2), ρ t x = ρ' t x) → fillP pl ρ cells ps K = fillP pl ρ' cells ps K
  | [], _, _ => rfl
  | (i, x) :: r, cells, h => by
    simp only [fillP]
    have e : ∀ t, ρ t x = ρ' t x := fun t => h t x (by simp)
    simp only [e]
    have ih : ∀ cells, fillP pl ρ cells r K = fillP pl ρ' cells r K := fun cells => fillP_congr r cells fun t y hy => h t y (by simp at hy ⊢; exact .inr hy)
    simp only [ih]
theorem oidx_congr {ρ ρ' : TypeId → Operand → PV} {x : Option Operand} {K : Option Int → Prop} (h : ∀ t, ∀ y ∈ optL x, ρ t y = ρ' t y) : oidx ρ x K = oidx ρ' x K := by
  cases x with
  | none => rfl
  | some y => simp only [oidx]; rw [h 0 y (by simp [optL])]

theorem bltn_congr {ρ ρ' : TypeId → Operand → PV} {H : Nat → Option Blk} {b : Builtin} {args : List Operand} {ts : List TypeId} (h : ∀ t, ∀ x ∈ args, ρ t x = ρ' t x) : bltn T ρ H n b args ts K = bltn T ρ' H n b args ts K := by
  unfold bltn
  split
  · rename_i x t
    rw [h t x (by simp)]
  · rename_i x xs t ts
    rw [h t x (by simp), argsP_congr xs ts fun t y hy => h t y (List.mem_cons_of_mem _ hy)]
  · rename_i x xs t ts
    rw [h t x (by simp), argsP_congr xs ts fun t y hy => h t y (List.mem_cons_of_mem _ hy)]
  · rename_i s x t u
    rw [h t s (by simp), h u x (by simp)]
  · rfl

theorem opv_congr {ρ ρ' : TypeId → Operand → PV} {H : Nat → Option Blk} (h : ∀ t, ∀ x ∈ opnds o.op, ρ t x = ρ' t x) : opv P T o ρ H n K = opv P T o ρ' H n K := by
  cases hop : o.op <;> simp only [hop, opnds] at h <;> simp only [opv, hop]
  case move x => rw [h o.type x (by simp)]
  case assign x => rw [h o.type x (by simp)]
  case pick c x y => rw [h 0 c (by simp), h o.type x (by simp), h o.type y (by simp)]
  case box e x => rw [h e x (by simp)]
  case build t ps => simp only [fillP_congr (ρ := ρ) (ρ' := ρ') ps.toList _ h]
  case buildSlice t l ps => simp only [fillP_congr (ρ := ρ) (ρ' := ρ') ps.toList _ h]
  case load t x => rw [h 0 x (by simp)]
  case store t x y => rw [h 0 x (by simp), h t y (by simp)]
  case nilCheck x => rw [h 0 x (by simp)]
  case binOp op t x y u => rw [h t x (by simp), h u y (by simp)]
  case unOp op t x => rw [h t x (by simp)]
  case convert s d x => rw [h s x (by simp)]
  case makeFunc fn first caps => rw [argsP_congr caps.toList [] h]
  case makeSlice t l c => rw [h 0 l (by simp), h 0 c (by simp)]
  case fieldAddr t x f => rw [h 0 x (by simp)]
  case indexAddr t x i => simp only [h _ x (by simp), h _ i (by simp)]
  case index t x i => rw [h 0 i (by simp), h t x (by simp)]
  case extract x i => rw [h 0 x (by simp)]
  case slice t x lo hi mx =>
    have e1 : ∀ K, oidx ρ lo K = oidx ρ' lo K := fun K => oidx_congr fun t y hy => h t y (by simp [hy])
    have e2 : ∀ K, oidx ρ hi K = oidx ρ' hi K := fun K => oidx_congr fun t y hy => h t y (by simp [hy])
    have e3 : ∀ t, ρ t x = ρ' t x := fun t => h t x (by simp)
    have e4 : ∀ m, mx = some m → ∀ t, ρ t m = ρ' t m := fun m hm t => h t m (by simp [hm, optL])
    have e5 : ∀ m, hi = some m → ∀ t, ρ t m = ρ' t m := fun m hm t => h t m (by simp [hm, optL])
    cases mx with
    | none => simp only [e1, e2, e3]
    | some m =>
      cases hi with
      | none => simp only [e2, e3, e4 m rfl]
      | some hh => simp only [e2, e3, e4 m rfl, e5 hh rfl]
  case call c =>
    cases hc : c.callee with
    | value f =>
      simp only [hc] at h ⊢
      rw [h 0 f (by simp), argsP_congr c.args.toList c.argTypes.toList fun t x hx => h t x (by simp [hx])]
    | builtin b =>
      simp only [hc] at h ⊢
      exact bltn_congr fun t x hx => h t x (by simpa using hx)
    | invoke r m => rfl
end Go.Pv
namespace Go.Pv
set_option linter.unusedVariables false
set_option linter.unusedSimpArgs false
open Go Go.RowKit
variable {P : Program} {T : Ty} {o : Oper} {n : Nat} {K : PV → Eff → Prop}
/-! ### Which blocks an operation looks at -/
def zids (T : Ty) (t : TypeId) : List Nat := match T t with
  | some tt => match tt.k with
    | .slice e => match T e with
      | some te => match cellsOf te.zero with
        | some z => z.flatMap id1
        | none => []
      | none => []
    | _ => []
  | none => []
def ety (T : Ty) (t : TypeId) : TypeId := match T t with
  | some tt => match tt.k with
    | .slice e => e
    | _ => 0
  | none => 0
def rdO (T : Ty) (ρ : TypeId → Operand → PV) : Op → List Nat
  | .load _ x | .nilCheck x | .fieldAddr _ x _ => (ρ 0 x).ids
  | .store t x y => (ρ 0 x).ids ++ (ρ t y).ids
  | .indexAddr t x _ => (ρ t x).ids ++ (ρ 0 x).ids
  | .slice t x _ _ _ => (ρ t x).ids ++ (ρ 0 x).ids
  | .convert s _ x => (ρ s x).ids
  | .buildSlice t _ ps => zids T t ++ ps.toList.flatMap fun p => (ρ (ety T t) p.2).ids
  | .call c => match c.callee with
    | .value f => (match ρ 0 f with | .fn _ caps => caps.flatMap PV.ids | _ => []) ++ (argsP ρ c.args.toList c.argTypes.toList).flatMap PV.ids
    | .builtin .append => (argsP ρ c.args.toList c.argTypes.toList).flatMap PV.ids
    | _ => []
  | _ => []

section
variable {H H' : Nat → Option Blk}
theorem live_loc {id tot : Nat} (h : H id = H' id) : live H id tot = live H' id tot := by unfold live; rw [h]
theorem fldP_loc {off : Nat} {p : PV} {K : PV → Prop} (h : ∀ id ∈ p.ids, H id = H' id) : fldP H off p K = fldP H' off p K := by
  unfold fldP; split
  · rw [live_loc (h _ (by simp [PV.ids]))]
  · rfl
  · rfl
theorem ixS_loc {te : TI} {i : Int} {p : PV} {K : PV → Prop} (h : ∀ id ∈ p.ids, H id = H' id) : ixS H te i p K = ixS H' te i p K := by
  unfold ixS; split
  · rfl
  · rw [h _ (by simp [PV.ids])]
  · rw [h _ (by simp [PV.ids])]
  · rfl
theorem ixA_loc {m : Nat} {te : TI} {i : Int} {p : PV} {K : PV → Prop} (h : ∀ id ∈ p.ids, H id = H' id) : ixA H m te i p K = ixA H' m te i p K := by
  unfold ixA; split
  · rw [live_loc (h _ (by simp [PV.ids]))]
  · rfl
  · rfl
theorem ldP_loc {ti : TI} {p : PV} {K : PV → Prop} (h : ∀ id ∈ p.ids, H id = H' id) : ldP ti H p K = ldP ti H' p K := by
  unfold ldP; split
  · rw [h _ (by simp [PV.ids])]
  · rfl
  · rfl
theorem rdS_loc {p : PV} {K : Cells → Prop} (h : ∀ id ∈ p.ids, H id = H' id) : rdS H p K = rdS H' p K := by
  unfold rdS; split
  · rfl
  · rfl
  · rw [h _ (by simp [PV.ids])]
  · rfl
theorem slP_loc {te : TI} {l h' : Option Int} {p : PV} {K : PV → Prop} (h : ∀ id ∈ p.ids, H id = H' id) : slP H te l h' p K = slP H' te l h' p K := by
  unfold slP; split
  · rfl
  · rfl
  · rw [h _ (by simp [PV.ids])]
  · rfl
theorem slA_loc {m : Nat} {h' : Int} {p : PV} {K : PV → Prop} (h : ∀ id ∈ p.ids, H id = H' id) : slA H m h' p K = slA H' m h' p K := by
  cases p <;> try rfl
  rename_i id i j tot
  simp only [slA]
  rw [h id (by simp [PV.ids])]
theorem sl0_loc {p : PV} {K : PV → Prop} (h : ∀ id ∈ p.ids, H id = H' id) : sl0 H p K = sl0 H' p K := by
  unfold sl0; split
  · rfl
  · rfl
  · rw [h _ (by simp [PV.ids])]
  · rfl
theorem frz1_loc {p : PV} {K : PV → List Nat → Prop} (h : ∀ id ∈ id1 p, H id = H' id) : frz1 H p K = frz1 H' p K := by
  unfold frz1; split
  · rw [h _ (by simp [id1])]
  · rfl
  · rw [h _ (by simp [id1])]
  all_goals rfl
theorem frzL_loc : ∀ (ps : List PV) (K : List PV → List Nat → Prop), (∀ id ∈ ps.flatMap id1, H id = H' id) → frzL H ps K = frzL H' ps K
  | [], _, _ => rfl
  | p :: ps, K, h => by
    simp only [frzL]
    rw [frz1_loc fun id hi => h id (by simp [hi])]
    have : ∀ K, frzL H ps K = frzL H' ps K := fun K => frzL_loc ps K fun id hi => h id (by rw [List.flatMap_cons]; exact List.mem_append_right _ hi)
    simp only [this]
theorem frz_loc {p : PV} {K : PV → List Nat → Prop} (h : ∀ id ∈ p.ids, H id = H' id) : frz H p K = frz H' p K := by
  unfold frz
  split
  · exact frzL_loc _ _ h
  · exact frzL_loc _ _ h
  · refine frz1_loc fun id hi => h id ?_
    cases p <;> simp_all [PV.ids, id1]
theorem frzA_loc : ∀ (ps : List PV) (K : List PV → List Nat → Prop), (∀ id ∈ ps.flatMap PV.ids, H id = H' id) → frzA H ps K = frzA H' ps K
  | [], _, _ => rfl
  | p :: ps, K, h => by
    simp only [frzA]
    rw [frz_loc fun id hi => h id (by simp [hi])]
    have : ∀ K, frzA H ps K = frzA H' ps K := fun K => frzA_loc ps K fun id hi => h id (by rw [List.flatMap_cons]; exact List.mem_append_right _ hi)
    simp only [this]
theorem mvL_loc : ∀ (ps : List PV) (H H' : Nat → Option Blk) (K : List PV → Eff → Prop), (∀ id ∈ ps.flatMap id1, H id = H' id) → mvL H ps K = mvL H' ps K
  | [], _, _, _, _ => rfl
  | p :: ps, H, H', K, h => by
    have h2 : ∀ id ∈ ps.flatMap id1, H id = H' id := fun id hi => h id (by rw [List.flatMap_cons]; exact List.mem_append_right _ hi)
    have ih : ∀ K, mvL H ps K = mvL H' ps K := fun K => mvL_loc ps H H' K h2
    cases p <;> simp only [mvL, ih]
    case sl id off m tot =>
      rw [h id (by simp [id1])]
      have : ∀ K, mvL (put H id none) ps K = mvL (put H' id none) ps K := fun K => mvL_loc ps _ _ K fun i hi => by
        rw [put_at, put_at]
        split
        · rfl
        · exact h2 i hi
      simp only [this]
    case fn f caps => cases caps <;> simp only [mvL, ih]
theorem apS_loc {e : TypeId} {te : TI} {s x : PV} (h1 : ∀ id ∈ s.ids, H id = H' id) (h2 : ∀ id ∈ x.ids, H id = H' id) : apS H n e te s x K = apS H' n e te s x K := by
  unfold apS
  split
  · rw [h1 _ (by simp [PV.ids])]
    simp only [rdS_loc h2]
  · simp only [rdS_loc h2]
  · rfl
end

/-- The cells of a value: their blocks are the value's. -/
theorem cellsOf_ids {p : PV} {vs : List PV} (h : cellsOf p = some vs) : ∀ id, id ∈ vs.flatMap id1 → id ∈ p.ids := by
  intro id hi
  cases p <;> simp_all [cellsOf, PV.ids, id1]
  all_goals (subst h; simp_all [id1])
theorem fillP_ids {ρ : TypeId → Operand → PV} {e : TypeId} {sz : Nat} {K K' : List PV → Prop} {L : List Nat} (hK : ∀ cells, (∀ id ∈ cells.flatMap id1, id ∈ L) → K cells = K' cells) :
    ∀ (ps : List (Nat × Operand)) (cells : List PV), (∀ id ∈ cells.flatMap id1, id ∈ L) → (∀ p ∈ ps, ∀ id ∈ (ρ e p.2).ids, id ∈ L) → fillP (fun i => some (i * sz, sz, e)) ρ cells ps K = fillP (fun i => some (i * sz, sz, e)) ρ cells ps K'
  | [], cells, h, _ => hK cells h
  | (i, x) :: r, cells, h, hp => by
    simp only [fillP]
    cases hc : cellsOf (ρ e x) with
    | none => rfl
    | some vs =>
      simp only
      rw [fillP_ids hK r _ ?_ fun p hp' => hp p (List.mem_cons_of_mem _ hp')]
      intro id hi
      simp only [List.flatMap_append, List.mem_append] at hi
      rcases hi with (hi | hi) | hi
      · obtain ⟨a, ha, hb⟩ := List.mem_flatMap.1 hi
        exact h id (List.mem_flatMap.2 ⟨a, List.mem_of_mem_take ha, hb⟩)
      · exact hp (i, x) (by simp) id (cellsOf_ids hc id hi)
      · obtain ⟨a, ha, hb⟩ := List.mem_flatMap.1 hi
        exact h id (List.mem_flatMap.2 ⟨a, List.mem_of_mem_drop ha, hb⟩)

theorem hcl_loc {g : FuncId} {args : List PV} {H H' : Nat → Option Blk} (h : ∀ id ∈ args.flatMap PV.ids, H id = H' id) : hcl P H n g args K = hcl P H' n g args K := by
  unfold hcl
  refine propext ⟨?_, ?_⟩
  · rintro ⟨Hr, r, e, h1, h2, h3⟩
    exact ⟨Hr, r, e, h1, fun p hp => let ⟨k1, k2, k3, k4⟩ := h2 p hp; ⟨k1, k2, by rw [← h p.1 k1]; exact k3, k4⟩, h3⟩
  · rintro ⟨Hr, r, e, h1, h2, h3⟩
    exact ⟨Hr, r, e, h1, fun p hp => let ⟨k1, k2, k3, k4⟩ := h2 p hp; ⟨k1, k2, by rw [h p.1 k1]; exact k3, k4⟩, h3⟩
theorem opv_loc {ρ : TypeId → Operand → PV} {H H' : Nat → Option Blk} (h : ∀ id ∈ rdO T ρ o.op, H id = H' id) : opv P T o ρ H n K = opv P T o ρ H' n K := by
  cases hop : o.op <;> simp only [hop, rdO] at h <;> simp only [opv, hop]
  case load t x => simp only [ldP_loc h]
  case store t x y =>
    cases hx : ρ 0 x <;> simp only
    rename_i id i j tot
    rw [hx] at h
    rw [h id (by simp [PV.ids])]
    cases hc : cellsOf (ρ t y) with
    | none => rfl
    | some vs =>
      have : ∀ K, mvL H vs K = mvL H' vs K := fun K => mvL_loc vs H H' K fun i hi => h i (by simp only [List.mem_append]; exact .inr (cellsOf_ids hc i hi))
      simp only [this]
  case nilCheck x =>
    cases hx : ρ 0 x <;> simp only
    rename_i id i j tot
    rw [hx] at h
    rw [live_loc (h id (by simp [PV.ids]))]
  case fieldAddr t x f => simp only [fldP_loc h]
  case indexAddr t x ix =>
    simp only [ixS_loc fun id hi => h id (List.mem_append_left _ hi), ixA_loc fun id hi => h id (List.mem_append_right _ hi)]
  case slice t x lo hi mx => simp only [slP_loc fun id hi => h id (List.mem_append_left _ hi), sl0_loc fun id hi => h id (List.mem_append_left _ hi), slA_loc fun id hi => h id (List.mem_append_right _ hi)]
  case convert s d x => simp only [rdS_loc h]
  case buildSlice t len ps =>
    cases ht : T t with
    | none => rfl
    | some tt =>
      simp only
      cases hk : tt.k <;> simp only
      rename_i e
      cases he : T e with
      | none => rfl
      | some te =>
        simp only
        cases hz : cellsOf te.zero with
        | none => rfl
        | some z =>
          simp only
          have e1 : zids T t = z.flatMap id1 := by simp [zids, ht, hk, he, hz]
          have e2 : ety T t = e := by simp [ety, ht, hk]
          rw [e1, e2] at h
          rw [fillP_ids (L := z.flatMap id1 ++ ps.toList.flatMap fun p => (ρ e p.2).ids) (K' := fun cells => cells.all PV.one = true ∧ mvL H' cells fun cells' ef => match mkC te len cells' with
              | some cs => K (.ro cs) ef ∨ K (.sl n 0 len len) (ef ++ [(n, some ⟨cs, false, e⟩)])
              | none => False) (fun cells hc => by rw [mvL_loc cells H H' _ fun id hi => h id (hc id hi)]; rfl) ps.toList _ ?_ ?_]
          · rfl
          · intro id hi
            obtain ⟨a, ha, hb⟩ := List.mem_flatMap.1 hi
            obtain ⟨l, hl, hal⟩ := List.mem_flatten.1 ha
            obtain ⟨_, rfl⟩ := List.mem_replicate.1 hl
            exact List.mem_append_left _ (List.mem_flatMap.2 ⟨a, hal, hb⟩)
          · intro p hp id hi
            exact List.mem_append_right _ (List.mem_flatMap.2 ⟨p, hp, hi⟩)
  case call c =>
    cases hc : c.callee with
    | value f =>
      simp only [hc] at h ⊢
      cases hf : ρ 0 f <;> simp only
      rename_i g caps
      rw [hf] at h
      have hall : ∀ id ∈ (argsP ρ c.args.toList c.argTypes.toList ++ caps).flatMap PV.ids, H id = H' id := fun id hi => by
        rw [List.flatMap_append, List.mem_append] at hi
        exact h id (by simp only [List.mem_append]; exact hi.symm)
      rw [frzA_loc _ _ hall, hcl_loc hall]
    | builtin b =>
      simp only [hc] at h ⊢
      cases b
      case append =>
        unfold bltn
        split <;> try rfl
        rename_i s x t u _ ha hb
        rw [ha, hb] at h
        have h1 : ∀ id ∈ (ρ t s).ids, H id = H' id := fun id hi => h id (by simp [argsP, hi])
        have h2 : ∀ id ∈ (ρ u x).ids, H id = H' id := fun id hi => h id (by simp [argsP, hi])
        simp only [apS_loc h1 h2]
      all_goals (unfold bltn; split <;> first | rfl | contradiction)
    | invoke r m => rfl
end Go.Pv
