import Derived.Test.YtmkgfgdipkagbaaPgb
import Derived.Deep.LoopGhost
import Derived.RangeFuncRecord
namespace Go.Pv
set_option linter.unusedVariables false
set_option linter.unusedSimpArgs false
open Go Go.RowKit
variable {P : Program} {T : Ty} {o : Oper} {n : Nat} {K : PV → Eff → Prop}

def optL : Option Operand → List Operand
  | none => []
  | some x => [x]
def opnds : Op → List Operand
  | .move x | .assign x | .box _ x | .load _ x | .nilCheck x | .unOp _ _ x | .convert _ _ x | .fieldAddr _ x _ | .extract x _ => [x]
  | .pick c x y => [c, x, y]
  | .store _ x y | .binOp _ _ x y _ | .makeSlice _ x y | .indexAddr _ x y | .index _ x y => [x, y]
  | .build _ ps | .buildSlice _ _ ps => ps.toList.map (·.2)
  | .makeFunc _ _ caps => caps.toList
  | .slice _ x lo hi mx => x :: (optL lo ++ optL hi ++ optL mx)
  | .call c => (match c.callee with | .value f => [f] | _ => []) ++ c.args.toList
  | _ => []

theorem argsP_congr {ρ ρ' : TypeId → Operand → PV} : ∀ (xs : List Operand) (ts : List TypeId), (∀ t, ∀ x ∈ xs, ρ t x = ρ' t x) → argsP ρ xs ts = argsP ρ' xs ts
  | [], _, _ => rfl
  | x :: xs, [], h => by simp only [argsP]; rw [h 0 x (by simp), argsP_congr xs [] fun t y hy => h t y (List.mem_cons_of_mem _ hy)]
  | x :: xs, t :: ts, h => by simp only [argsP]; rw [h t x (by simp), argsP_congr xs ts fun t y hy => h t y (List.mem_cons_of_mem _ hy)]
theorem fillP_congr {ρ ρ' : TypeId → Operand → PV} {pl : Nat → Option (Nat × Nat × TypeId)} {K : List PV → Prop} : ∀ (ps : List (Nat × Operand)) (cells : List PV), (∀ t, ∀ x ∈ ps.map (·.2), ρ t x = ρ' t x) → fillP pl ρ cells ps K = fillP pl ρ' cells ps K
  | [], _, _ => rfl
  | (i, x) :: r, cells, h => by
    simp only [fillP]
    have e : ∀ t, ρ t x = ρ' t x := fun t => h t x (by simp)
    simp only [e]
    have ih : ∀ cells, fillP pl ρ cells r K = fillP pl ρ' cells r K := fun cells => fillP_congr r cells fun t y hy => h t y (by simp at hy ⊢; exact .inr hy)
    simp only [ih]
theorem oidx_congr {ρ ρ' : TypeId → Operand → PV} {x : Option Operand} {K : Option Int → Prop} (h : ∀ t, ∀ y ∈ optL x, ρ t y = ρ' t y) : oidx ρ x K = oidx ρ' x K := by
  cases x with
  | none => rfl
  | some y => simp only [oidx]; rw [h 0 y (by simp [optL])]

theorem bltn_congr {ρ ρ' : TypeId → Operand → PV} {H : Nat → Option Blk} {b : Builtin} {args : List Operand} {ts : List TypeId} (h : ∀ t, ∀ x ∈ args, ρ t x = ρ' t x) : bltn T ρ H n b args ts K = bltn T ρ' H n b args ts K := by
  unfold bltn
  split
  · rename_i x t
    rw [h t x (by simp)]
  · rename_i x xs t ts
    rw [h t x (by simp), argsP_congr xs ts fun t y hy => h t y (List.mem_cons_of_mem _ hy)]
  · rename_i x xs t ts
    rw [h t x (by simp), argsP_congr xs ts fun t y hy => h t y (List.mem_cons_of_mem _ hy)]
  · rename_i s x t u
    rw [h t s (by simp), h u x (by simp)]
  · rename_i s x t u
    rw [h t s (by simp), h u x (by simp)]
  · rfl

theorem opv_congr {ρ ρ' : TypeId → Operand → PV} {H : Nat → Option Blk} (h : ∀ t, ∀ x ∈ opnds o.op, ρ t x = ρ' t x) : opv P T o ρ H n K = opv P T o ρ' H n K := by
  cases hop : o.op <;> simp only [hop, opnds] at h <;> simp only [opv, hop]
  case move x => rw [h o.type x (by simp)]
  case assign x => rw [h o.type x (by simp)]
  case pick c x y => rw [h 0 c (by simp), h o.type x (by simp), h o.type y (by simp)]
  case box e x => rw [h e x (by simp)]
  case build t ps => simp only [fillP_congr (ρ := ρ) (ρ' := ρ') ps.toList _ h]
  case buildSlice t l ps => simp only [fillP_congr (ρ := ρ) (ρ' := ρ') ps.toList _ h]
  case load t x => rw [h 0 x (by simp)]
  case store t x y => rw [h 0 x (by simp), h t y (by simp)]
  case nilCheck x => rw [h 0 x (by simp)]
  case binOp op t x y u => rw [h t x (by simp), h u y (by simp)]
  case unOp op t x => rw [h t x (by simp)]
  case convert s d x => rw [h s x (by simp)]
  case makeFunc fn first caps => rw [argsP_congr caps.toList [] h]
  case makeSlice t l c => rw [h 0 l (by simp), h 0 c (by simp)]
  case fieldAddr t x f => rw [h 0 x (by simp)]
  case indexAddr t x i => simp only [h _ x (by simp), h _ i (by simp)]
  case index t x i => rw [h 0 i (by simp), h t x (by simp)]
  case extract x i => rw [h 0 x (by simp)]
  case slice t x lo hi mx =>
    have e1 : ∀ K, oidx ρ lo K = oidx ρ' lo K := fun K => oidx_congr fun t y hy => h t y (by simp [hy])
    have e2 : ∀ K, oidx ρ hi K = oidx ρ' hi K := fun K => oidx_congr fun t y hy => h t y (by simp [hy])
    have e3 : ∀ t, ρ t x = ρ' t x := fun t => h t x (by simp)
    have e4 : ∀ m, mx = some m → ∀ t, ρ t m = ρ' t m := fun m hm t => h t m (by simp [hm, optL])
    have e5 : ∀ m, hi = some m → ∀ t, ρ t m = ρ' t m := fun m hm t => h t m (by simp [hm, optL])
    cases mx with
    | none => simp only [e1, e2, e3]
    | some m =>
      cases hi with
      | none => simp only [e2, e3, e4 m rfl]
      | some hh => simp only [e2, e3, e4 m rfl, e5 hh rfl]
  case call c =>
    cases hc : c.callee with
    | value f =>
      simp only [hc] at h ⊢
      rw [h 0 f (by simp), argsP_congr c.args.toList c.argTypes.toList fun t x hx => h t x (by simp [hx])]
    | builtin b =>
      simp only [hc] at h ⊢
      exact bltn_congr fun t x hx => h t x (by simpa using hx)
    | invoke r m => rfl
end Go.Pv
namespace Go.Pv
set_option linter.unusedVariables false
set_option linter.unusedSimpArgs false
open Go Go.RowKit
variable {P : Program} {T : Ty} {o : Oper} {n : Nat} {K : PV → Eff → Prop}
/-! ### Which blocks an operation looks at -/
def zids (T : Ty) (t : TypeId) : List Nat := match T t with
  | some tt => match tt.k with
    | .slice e => match T e with
      | some te => match cellsOf te.zero with
        | some z => z.flatMap id1
        | none => []
      | none => []
    | _ => []
  | none => []
def ety (T : Ty) (t : TypeId) : TypeId := match T t with
  | some tt => match tt.k with
    | .slice e => e
    | _ => 0
  | none => 0
def rdO (T : Ty) (ρ : TypeId → Operand → PV) : Op → List Nat
  | .load _ x | .nilCheck x | .fieldAddr _ x _ => (ρ 0 x).ids
  | .store t x y => (ρ 0 x).ids ++ (ρ t y).ids
  | .indexAddr t x _ => (ρ t x).ids ++ (ρ 0 x).ids
  | .slice t x _ _ _ => (ρ t x).ids ++ (ρ 0 x).ids
  | .convert s _ x => (ρ s x).ids
  | .buildSlice t _ ps => zids T t ++ ps.toList.flatMap fun p => (ρ (ety T t) p.2).ids
  | .call c => match c.callee with
    | .value f => (match ρ 0 f with | .fn _ caps => caps.flatMap PV.ids | _ => []) ++ (argsP ρ c.args.toList c.argTypes.toList).flatMap PV.ids
    | .builtin .append => (argsP ρ c.args.toList c.argTypes.toList).flatMap PV.ids
    | .builtin .copy => (argsP ρ c.args.toList c.argTypes.toList).flatMap PV.ids
    | _ => []
  | _ => []

section
variable {H H' : Nat → Option Blk}
theorem live_loc {id tot : Nat} (h : H id = H' id) : live H id tot = live H' id tot := by unfold live; rw [h]
theorem fldP_loc {off : Nat} {p : PV} {K : PV → Prop} (h : ∀ id ∈ p.ids, H id = H' id) : fldP H off p K = fldP H' off p K := by
  unfold fldP; split
  · rw [live_loc (h _ (by simp [PV.ids]))]
  · rfl
  · rfl
theorem ixS_loc {te : TI} {i : Int} {p : PV} {K : PV → Prop} (h : ∀ id ∈ p.ids, H id = H' id) : ixS H te i p K = ixS H' te i p K := by
  unfold ixS; split
  · rfl
  · rw [h _ (by simp [PV.ids])]
  · rw [h _ (by simp [PV.ids])]
  · rfl
theorem ixA_loc {m : Nat} {te : TI} {i : Int} {p : PV} {K : PV → Prop} (h : ∀ id ∈ p.ids, H id = H' id) : ixA H m te i p K = ixA H' m te i p K := by
  unfold ixA; split
  · rw [live_loc (h _ (by simp [PV.ids]))]
  · rfl
  · rfl
theorem ldP_loc {ti : TI} {p : PV} {K : PV → Prop} (h : ∀ id ∈ p.ids, H id = H' id) : ldP ti H p K = ldP ti H' p K := by
  unfold ldP; split
  · rw [h _ (by simp [PV.ids])]
  · rfl
  · rfl
theorem rdS_loc {p : PV} {K : Cells → Prop} (h : ∀ id ∈ p.ids, H id = H' id) : rdS H p K = rdS H' p K := by
  unfold rdS; split
  · rfl
  · rfl
  · rw [h _ (by simp [PV.ids])]
  · rfl
theorem slP_loc {te : TI} {l h' : Option Int} {p : PV} {K : PV → Prop} (h : ∀ id ∈ p.ids, H id = H' id) : slP H te l h' p K = slP H' te l h' p K := by
  unfold slP; split
  · rfl
  · rfl
  · rw [h _ (by simp [PV.ids])]
  · rfl
theorem slA_loc {m : Nat} {h' : Int} {p : PV} {K : PV → Prop} (h : ∀ id ∈ p.ids, H id = H' id) : slA H m h' p K = slA H' m h' p K := by
  cases p <;> try rfl
  rename_i id i j tot
  simp only [slA]
  rw [h id (by simp [PV.ids])]
theorem sl0_loc {p : PV} {K : PV → Prop} (h : ∀ id ∈ p.ids, H id = H' id) : sl0 H p K = sl0 H' p K := by
  unfold sl0; split
  · rfl
  · rfl
  · rw [h _ (by simp [PV.ids])]
  · rfl
theorem frz1_loc {p : PV} {K : PV → List Nat → Prop} (h : ∀ id ∈ id1 p, H id = H' id) : frz1 H p K = frz1 H' p K := by
  unfold frz1; split
  · rw [h _ (by simp [id1])]
  · rfl
  · rw [h _ (by simp [id1])]
  all_goals rfl
theorem frzL_loc : ∀ (ps : List PV) (K : List PV → List Nat → Prop), (∀ id ∈ ps.flatMap id1, H id = H' id) → frzL H ps K = frzL H' ps K
  | [], _, _ => rfl
  | p :: ps, K, h => by
    simp only [frzL]
    rw [frz1_loc fun id hi => h id (by simp [hi])]
    have : ∀ K, frzL H ps K = frzL H' ps K := fun K => frzL_loc ps K fun id hi => h id (by rw [List.flatMap_cons]; exact List.mem_append_right _ hi)
    simp only [this]
theorem frz_loc {p : PV} {K : PV → List Nat → Prop} (h : ∀ id ∈ p.ids, H id = H' id) : frz H p K = frz H' p K := by
  unfold frz
  split
  · exact frzL_loc _ _ h
  · exact frzL_loc _ _ h
  · refine frz1_loc fun id hi => h id ?_
    cases p <;> simp_all [PV.ids, id1]
theorem frzA_loc : ∀ (ps : List PV) (K : List PV → List Nat → Prop), (∀ id ∈ ps.flatMap PV.ids, H id = H' id) → frzA H ps K = frzA H' ps K
  | [], _, _ => rfl
  | p :: ps, K, h => by
    simp only [frzA]
    rw [frz_loc fun id hi => h id (by simp [hi])]
    have : ∀ K, frzA H ps K = frzA H' ps K := fun K => frzA_loc ps K fun id hi => h id (by rw [List.flatMap_cons]; exact List.mem_append_right _ hi)
    simp only [this]
theorem mvL_loc : ∀ (ps : List PV) (H H' : Nat → Option Blk) (K : List PV → Eff → Prop), (∀ id ∈ ps.flatMap id1, H id = H' id) → mvL H ps K = mvL H' ps K
  | [], _, _, _, _ => rfl
  | p :: ps, H, H', K, h => by
    have h2 : ∀ id ∈ ps.flatMap id1, H id = H' id := fun id hi => h id (by rw [List.flatMap_cons]; exact List.mem_append_right _ hi)
    have ih : ∀ K, mvL H ps K = mvL H' ps K := fun K => mvL_loc ps H H' K h2
    cases p <;> simp only [mvL, ih]
    case sl id off m tot =>
      rw [h id (by simp [id1])]
      have : ∀ K, mvL (put H id none) ps K = mvL (put H' id none) ps K := fun K => mvL_loc ps _ _ K fun i hi => by
        rw [put_at, put_at]
        split
        · rfl
        · exact h2 i hi
      simp only [this]
    case fn f caps => cases caps <;> simp only [mvL, ih]
theorem cpS_loc {te : TI} {d s : PV} (h1 : ∀ id ∈ d.ids, H id = H' id) (h2 : ∀ id ∈ s.ids, H id = H' id) : cpS H te d s K = cpS H' te d s K := by
  unfold cpS
  split
  · rw [h1 _ (by simp [PV.ids])]
    simp only [rdS_loc h2]
  · rfl
theorem apS_loc {e : TypeId} {te : TI} {s x : PV} (h1 : ∀ id ∈ s.ids, H id = H' id) (h2 : ∀ id ∈ x.ids, H id = H' id) : apS H n e te s x K = apS H' n e te s x K := by
  unfold apS
  split
  · rw [h1 _ (by simp [PV.ids])]
    simp only [rdS_loc h2]
  · simp only [rdS_loc h2]
  · rfl
end

/-- The cells of a value: their blocks are the value's. -/
theorem cellsOf_ids {p : PV} {vs : List PV} (h : cellsOf p = some vs) : ∀ id, id ∈ vs.flatMap id1 → id ∈ p.ids := by
  intro id hi
  cases p <;> simp_all [cellsOf, PV.ids, id1]
  all_goals (subst h; simp_all [id1])
theorem fillP_ids {ρ : TypeId → Operand → PV} {e : TypeId} {sz : Nat} {K K' : List PV → Prop} {L : List Nat} (hK : ∀ cells, (∀ id ∈ cells.flatMap id1, id ∈ L) → K cells = K' cells) :
    ∀ (ps : List (Nat × Operand)) (cells : List PV), (∀ id ∈ cells.flatMap id1, id ∈ L) → (∀ p ∈ ps, ∀ id ∈ (ρ e p.2).ids, id ∈ L) → fillP (fun i => some (i * sz, sz, e)) ρ cells ps K = fillP (fun i => some (i * sz, sz, e)) ρ cells ps K'
  | [], cells, h, _ => hK cells h
  | (i, x) :: r, cells, h, hp => by
    simp only [fillP]
    cases hc : cellsOf (ρ e x) with
    | none => rfl
    | some vs =>
      simp only
      rw [fillP_ids hK r _ ?_ fun p hp' => hp p (List.mem_cons_of_mem _ hp')]
      intro id hi
      simp only [List.flatMap_append, List.mem_append] at hi
      rcases hi with (hi | hi) | hi
      · obtain ⟨a, ha, hb⟩ := List.mem_flatMap.1 hi
        exact h id (List.mem_flatMap.2 ⟨a, List.mem_of_mem_take ha, hb⟩)
      · exact hp (i, x) (by simp) id (cellsOf_ids hc id hi)
      · obtain ⟨a, ha, hb⟩ := List.mem_flatMap.1 hi
        exact h id (List.mem_flatMap.2 ⟨a, List.mem_of_mem_drop ha, hb⟩)

theorem hcl_loc {g : FuncId} {args : List PV} {H H' : Nat → Option Blk} (h : ∀ id ∈ args.flatMap PV.ids, H id = H' id) : hcl P H n g args K = hcl P H' n g args K := by
  unfold hcl
  refine propext ⟨?_, ?_⟩
  · rintro ⟨Hr, r, e, h1, h2, h3⟩
    exact ⟨Hr, r, e, h1, fun p hp => let ⟨k1, k2, k3, k4⟩ := h2 p hp; ⟨k1, k2, by rw [← h p.1 k1]; exact k3, k4⟩, h3⟩
  · rintro ⟨Hr, r, e, h1, h2, h3⟩
    exact ⟨Hr, r, e, h1, fun p hp => let ⟨k1, k2, k3, k4⟩ := h2 p hp; ⟨k1, k2, by rw [h p.1 k1]; exact k3, k4⟩, h3⟩
theorem opv_loc {ρ : TypeId → Operand → PV} {H H' : Nat → Option Blk} (h : ∀ id ∈ rdO T ρ o.op, H id = H' id) : opv P T o ρ H n K = opv P T o ρ H' n K := by
  cases hop : o.op <;> simp only [hop, rdO] at h <;> simp only [opv, hop]
  case load t x => simp only [ldP_loc h]
  case store t x y =>
    cases hx : ρ 0 x <;> simp only
    rename_i id i j tot
    rw [hx] at h
    rw [h id (by simp [PV.ids])]
    cases hc : cellsOf (ρ t y) with
    | none => rfl
    | some vs =>
      have : ∀ K, mvL H vs K = mvL H' vs K := fun K => mvL_loc vs H H' K fun i hi => h i (by simp only [List.mem_append]; exact .inr (cellsOf_ids hc i hi))
      simp only [this]
  case nilCheck x =>
    cases hx : ρ 0 x <;> simp only
    rename_i id i j tot
    rw [hx] at h
    rw [live_loc (h id (by simp [PV.ids]))]
  case fieldAddr t x f => simp only [fldP_loc h]
  case indexAddr t x ix =>
    simp only [ixS_loc fun id hi => h id (List.mem_append_left _ hi), ixA_loc fun id hi => h id (List.mem_append_right _ hi)]
  case slice t x lo hi mx => simp only [slP_loc fun id hi => h id (List.mem_append_left _ hi), sl0_loc fun id hi => h id (List.mem_append_left _ hi), slA_loc fun id hi => h id (List.mem_append_right _ hi)]
  case convert s d x => simp only [rdS_loc h]
  case buildSlice t len ps =>
    cases ht : T t with
    | none => rfl
    | some tt =>
      simp only
      cases hk : tt.k <;> simp only
      rename_i e
      cases he : T e with
      | none => rfl
      | some te =>
        simp only
        cases hz : cellsOf te.zero with
        | none => rfl
        | some z =>
          simp only
          have e1 : zids T t = z.flatMap id1 := by simp [zids, ht, hk, he, hz]
          have e2 : ety T t = e := by simp [ety, ht, hk]
          rw [e1, e2] at h
          rw [fillP_ids (L := z.flatMap id1 ++ ps.toList.flatMap fun p => (ρ e p.2).ids) (K' := fun cells => cells.all PV.one = true ∧ mvL H' cells fun cells' ef => match mkC te len cells' with
              | some cs => K (.ro cs) ef ∨ K (.sl n 0 len len) (ef ++ [(n, some ⟨cs, false, e⟩)])
              | none => False) (fun cells hc => by rw [mvL_loc cells H H' _ fun id hi => h id (hc id hi)]; rfl) ps.toList _ ?_ ?_]
          · rfl
          · intro id hi
            obtain ⟨a, ha, hb⟩ := List.mem_flatMap.1 hi
            obtain ⟨l, hl, hal⟩ := List.mem_flatten.1 ha
            obtain ⟨_, rfl⟩ := List.mem_replicate.1 hl
            exact List.mem_append_left _ (List.mem_flatMap.2 ⟨a, hal, hb⟩)
          · intro p hp id hi
            exact List.mem_append_right _ (List.mem_flatMap.2 ⟨p, hp, hi⟩)
  case call c =>
    cases hc : c.callee with
    | value f =>
      simp only [hc] at h ⊢
      cases hf : ρ 0 f <;> simp only
      rename_i g caps
      rw [hf] at h
      have hall : ∀ id ∈ (argsP ρ c.args.toList c.argTypes.toList ++ caps).flatMap PV.ids, H id = H' id := fun id hi => by
        rw [List.flatMap_append, List.mem_append] at hi
        exact h id (by simp only [List.mem_append]; exact hi.symm)
      rw [frzA_loc _ _ hall, hcl_loc hall]
    | builtin b =>
      simp only [hc] at h ⊢
      cases b
      case append =>
        unfold bltn
        split <;> try (first | rfl | contradiction)
        rename_i s x t u _ ha hb
        rw [ha, hb] at h
        have h1 : ∀ id ∈ (ρ t s).ids, H id = H' id := fun id hi => h id (by simp [argsP, hi])
        have h2 : ∀ id ∈ (ρ u x).ids, H id = H' id := fun id hi => h id (by simp [argsP, hi])
        simp only [apS_loc h1 h2]
      case copy =>
        unfold bltn
        split <;> try (first | rfl | contradiction)
        rename_i s x t u _ ha hb
        rw [ha, hb] at h
        have h1 : ∀ id ∈ (ρ t s).ids, H id = H' id := fun id hi => h id (by simp [argsP, hi])
        have h2 : ∀ id ∈ (ρ u x).ids, H id = H' id := fun id hi => h id (by simp [argsP, hi])
        simp only [cpS_loc h1 h2]
      all_goals (unfold bltn; split <;> first | rfl | contradiction)
    | invoke r m => rfl
end Go.Pv


namespace Go.Pv
set_option linter.unusedVariables false
set_option linter.unusedSimpArgs false
open Go Go.RowKit

/-! ### States -/
def getT : List (Nat × PV) → Nat → PV
  | [], _ => .any
  | (i, v) :: r, t => if i = t then v else getT r t
/-- What is known: of the slots (the newest first), of the call's own blocks; and the number of the next block. -/
structure St where
  tm : List (Nat × PV)
  H : List (Nat × Option Blk)
  n : Nat
def onL : Eff → List (Nat × Option Blk) → List (Nat × Option Blk)
  | [], H => H
  | p :: r, H => onL r (p :: H)
def nxt : Eff → Nat → Nat
  | [], n => n
  | p :: r, n => nxt r (max n (p.1 + 1))
def putT (nt : Nat) (tm : List (Nat × PV)) (d : Option Nat) (v : PV) : List (Nat × PV) := match d with
  | some d => if d < nt then (d, v) :: tm else tm
  | none => tm

theorem getH_on : ∀ (e : Eff) (H : List (Nat × Option Blk)), getH (onL e H) = e.on (getH H)
  | [], _ => rfl
  | (i, b) :: r, H => by
    show getH (onL r ((i, b) :: H)) = Eff.on r (put (getH H) i b)
    rw [getH_on r]
    rfl
theorem on_same : ∀ (E : Eff) (H : Nat → Option Blk), (∀ p ∈ E, H p.1 = p.2) → E.on H = H
  | [], H, _ => rfl
  | (i, b) :: E, H, h => by
    have e : put H i b = H := by
      funext t
      unfold put
      split
      · rename_i he
        subst he
        exact (h (i, b) (by simp)).symm
      · rfl
    show Eff.on E (put H i b) = H
    rw [e]
    exact on_same E H fun p hp => h p (by simp [hp])
theorem nxt_ge : ∀ (e : Eff) (n : Nat), n ≤ nxt e n ∧ ∀ p ∈ e, p.1 < nxt e n
  | [], n => ⟨Nat.le_refl _, fun p h => by simp at h⟩
  | q :: r, n => by
    obtain ⟨h1, h2⟩ := nxt_ge r (max n (q.1 + 1))
    refine ⟨?_, fun p hp => ?_⟩
    · show n ≤ nxt r (max n (q.1 + 1))
      omega
    · show p.1 < nxt r (max n (q.1 + 1))
      rcases List.mem_cons.1 hp with rfl | hp
      · omega
      · exact h2 p hp

/-- Where a walk began: of s that it is somebody's own; the context then, its numbers below n0. -/
structure Fr (n0 : Nat) where
  s : Nat → Prop
  c0 : Cx
structure Keep {n0 : Nat} (S : Fr n0) (B : Nat) (W0 : World) (c : Cx) : Prop where
  s : ∀ b, S.s b → b < B ∧ c.ow b
  le : S.c0.Le c
  only : ∀ b, S.c0.idle b → c.idle b ∧ c.w.heap[b]? = S.c0.w.heap[b]? ∧ (S.c0.ow b → c.ow b)
  lt : ∀ id, S.c0.A id → id < n0
  sz : S.c0.w.heap.size ≤ c.w.heap.size
  pkn : ∀ b, c.pk b → S.c0.pk b ∨ ¬ S.c0.idle b
theorem Keep.post {n0 : Nat} {S : Fr n0} {B : Nat} {W0 : World} {c c' : Cx} {e : Eff} (h : Keep S B W0 c) (hp : Post c c' B e) : Keep S B W0 c' :=
  ⟨fun b hb => ⟨(h.s b hb).1, hp.ow b (h.s b hb).1 (h.s b hb).2⟩, h.le.trans hp.le, fun b hb => let ⟨h1, h2, h3⟩ := h.only b hb; let ⟨k1, k2, k3⟩ := hp.only b h1; ⟨k1, k2.trans h2, fun h => k3 (h3 h)⟩, h.lt, Nat.le_trans h.sz hp.below.size, fun b hb => (hp.pkn b hb).elim (h.pkn b) fun k => .inr fun h' => k (h.only b h').1⟩
/-- Marks among the deferred calls (of ranges over functions): each in an idle block, laid since the start. -/
def Dfs (N : Nat) (c : Cx) : List Deferred → Prop
  | [] => True
  | d :: ds => (∃ D, d = { target := .collected D, args := #[] } ∧ N ≤ D ∧ c.idle D ∧ c.ow D ∧ c.w.heap[D]? = some (.deferred (some [])) ∧ ∀ d' ∈ ds, d'.target ≠ .collected D) ∧ Dfs N c ds
theorem Dfs.to {N : Nat} {c c' : Cx} (h : ∀ b, c.idle b → c'.idle b ∧ c'.w.heap[b]? = c.w.heap[b]? ∧ (c.ow b → c'.ow b)) : ∀ {l : List Deferred}, Dfs N c l → Dfs N c' l
  | [], _ => trivial
  | d :: ds, hd => by
    obtain ⟨⟨D, e, h1, h2, h3, h4, h5⟩, h6⟩ := hd
    obtain ⟨k1, k2, k3⟩ := h D h2
    exact ⟨⟨D, e, h1, k1, k3 h3, k2.trans h4, h5⟩, Dfs.to h h6⟩
def Sim {n0 : Nat} (S : Fr n0) (B nt : Nat) (W0 : World) (st : St) (a : Act) (w : World) : Prop := ∃ c : Cx, c.w = w ∧ c.H = getH st.H ∧ HeapOk c B ∧ (∀ id, st.n ≤ id → ¬ c.A id) ∧
  (∀ t, Rep c false (getT st.tm t) (a.tmps.getD t undef)) ∧ a.tmps.size = nt ∧ Dfs S.c0.w.heap.size c a.defers ∧ Below B W0 w ∧ Keep S B W0 c

variable {P : Program} {T : Ty} {nt n0 : Nat}

theorem put_rep {c : Cx} {a : Act} {tm : List (Nat × PV)} (h : ∀ t, Rep c false (getT tm t) (a.tmps.getD t undef)) (hs : a.tmps.size = nt) (d : Option Nat) {pv : PV} {v : Value} (hp : Rep c false pv v) (t : Nat) : Rep c false (getT (putT nt tm d pv) t) ((a.put d v).tmps.getD t undef) := by
  cases d with
  | none => exact h t
  | some d =>
    simp only [putT, Act.put]
    by_cases hd : d < nt
    · rw [if_pos hd]
      simp only [getT]
      by_cases ht : d = t
      · subst ht
        rw [if_pos rfl]
        have hd' : d < a.tmps.size := by omega
        simp [hd']
        exact hp
      · rw [if_neg ht]
        have := h t
        simp only [Array.getD_eq_getD_getElem?] at this ⊢
        rw [Array.getElem?_setIfInBounds_ne ht]
        exact this
    · rw [if_neg hd]
      have : a.tmps.setIfInBounds d v = a.tmps := Array.setIfInBounds_eq_of_size_le (by omega)
      rw [this]
      exact h t
theorem put_size (a : Act) (d : Option Nat) (v : Value) : (a.put d v).tmps.size = a.tmps.size := by
  cases d <;> simp [Act.put]
theorem put_defers (a : Act) (d : Option Nat) (v : Value) : (a.put d v).defers = a.defers := by
  cases d <;> rfl

/-- Is an operation wanted? -/
def un : PV → PV
  | .opt _ v => v
  | p => p
def gb : PV → Bool
  | .opt b _ => b
  | _ => true
/-- The Bool that stands for 'wanted'. -/
def gd (ops : List Oper) (o : Oper) (tm : Nat → PV) (K : Bool → Prop) : Prop := match o.guard with
  | none => K true
  | some (j, want) => match (ops[j]?).bind (·.dst) with
    | some d => match tm d with
      | .bool b => K (b == want)
      | .opt g (.bool b) => K (g && (b == want))
      | _ => False
    | none => False
/-- Under b: what the operands hold is there. -/
def need (tm : Nat → PV) (b : Bool) : List Operand → Prop
  | [] => True
  | .tmp t :: r => (match tm t with | .opt g _ => b = true → g = true | _ => True) ∧ need tm b r
  | _ :: r => need tm b r
def evu (T : Ty) (tm : Nat → PV) (t : TypeId) (x : Operand) : PV := un (ev T tm t x)
/-- One operation under b. -/
def step1 (P : Program) (T : Ty) (o : Oper) (tm : Nat → PV) (H : Nat → Option Blk) (n : Nat) (b : Bool) (K : PV → Eff → Prop) : Prop :=
  match o.op with
  | .pick x y z => (match evu T tm 0 x, evu T tm o.type y, evu T tm o.type z with
    | .bool t, .bool e1, .bool e2 => need tm b [x] ∧ (need tm (b && t) [y]) ∧ (need tm (b && !t) [z]) ∧ K (.bool (if t then e1 else e2)) []
    | _, _, _ => need tm b [x, y, z] ∧ opv P T o (evu T tm) H n K)
  | _ => need tm b (opnds o.op) ∧ opv P T o (evu T tm) H n K

def unT : PV → PV
  | .opt b v => if b then v else .any
  | p => p
theorem unT_rep {c : Cx} {p : PV} {v : Value} (h : Rep c false p v) : Rep c false (unT p) v := by
  cases h with
  | opt _ b q _ h1 h2 =>
    cases b with
    | true => exact h1 rfl
    | false => exact .any ..
  | any => exact .any ..
  | bool => exact .bool ..
  | int => exact .int ..
  | str => exact .str ..
  | nilf => exact .nilf _
  | nil _ cs A h => exact .nil _ cs A h
  | ro0 _ cs A cp h => exact .ro0 _ cs A cp h
  | ro _ cs b off cp f h1 h2 h3 h4 h5 h6 => exact .ro _ cs b off cp f h1 h2 h3 h4 h5 h6
  | rop _ cs i j b off f h1 h2 h3 h4 => exact .rop _ cs i j b off f h1 h2 h3 h4
  | sl id off n tot v ha hs hk => exact .sl id off n tot v ha hs hk
  | ptr id i j tot v ha hs hk => exact .ptr id i j tot v ha hs hk
  | asl id j n v ha hs hk => exact .asl id j n v ha hs hk
  | yld id v ha hs hk => exact .yld id v ha hs hk
  | fn _ f caps vs h1 h2 => exact .fn _ f caps vs h1 h2
  | agg _ cs vs h1 h2 => exact .agg _ cs vs h1 h2
  | tup _ cs vs h1 h2 => exact .tup _ cs vs h1 h2
  | old Te cs v hd => exact .old Te cs v hd
  | oldp Te cs i0 j0 b off arr f h1 h2 h3 h4 => exact .oldp Te cs i0 j0 b off arr f h1 h2 h3 h4
  | uint _ k n => exact .uint _ k n
theorem cst_un (em : List (Option Cells)) (v : Value) : un (cst em v) = cst em v ∧ unT (cst em v) = cst em v := by
  unfold cst cst1
  split
  · exact ⟨rfl, rfl⟩
  · split <;> exact ⟨rfl, rfl⟩
theorem need_un {tm : Nat → PV} : ∀ {l : List Operand}, need tm true l → ∀ t, ∀ x ∈ l, evu T tm t x = unT (ev T tm t x)
  | [], _, t, x, hx => by simp at hx
  | y :: r, h, t, x, hx => by
    rcases List.mem_cons.1 hx with rfl | hx
    · cases x with
      | tmp i =>
        have h1 := h.1
        show un (tm i) = unT (tm i)
        cases hq : tm i <;> try rfl
        rw [hq] at h1
        have h2 := h1 rfl
        rw [h2]
        rfl
      | const v => exact (cst_un _ v).1.trans (cst_un _ v).2.symm
      | func f => rfl
      | global g => rfl
    · refine need_un (l := r) ?_ t x hx
      cases y <;> first | exact h.2 | exact h
theorem evu_bool {c : Cx} {a : Act} {tm : Nat → PV} (hT : TyOk P T) (hrep : ∀ t, Rep c false (tm t) (a.tmps.getD t undef)) {t : TypeId} {x : Operand} {e : Bool} (hn : need tm true [x]) (h : evu T tm t x = .bool e) : a.eval x = .bool e := by
  have h1 := unT_rep (ev_ok hT hrep t x)
  rw [← need_un hn t x (by simp), h] at h1
  generalize a.eval x = v at h1
  cases h1
  rfl
theorem step1_ok (hT : TyOk P T) {c : Cx} {B n : Nat} {a : Act} {o : Oper} {tm : Nat → PV} {K : PV → Eff → Prop} (hok : HeapOk c B) (hn : ∀ q, q < 8 → ¬ c.A (n + q)) (hrep : ∀ t, Rep c false (tm t) (a.tmps.getD t undef)) (h : step1 P T o tm c.H n true K) : Does P o a c B K := by
  have gen : need tm true (opnds o.op) → opv P T o (evu T tm) c.H n K → Does P o a c B K := fun h1 h2 => by
    rw [opv_congr (ρ' := fun t x => unT (ev T tm t x)) (fun t x hx => need_un h1 t x hx)] at h2
    exact opv_sound hT hok hn (fun t x => unT_rep (ev_ok hT hrep t x)) h2
  unfold step1 at h
  split at h
  · rename_i x y z hop
    split at h
    · rename_i t e1 e2 hx hy hz
      obtain ⟨n1, n2, n3, hk⟩ := h
      have hv := evu_bool hT hrep n1 hx
      cases t with
      | true =>
        have hv2 := evu_bool hT hrep n2 hy
        exact does_val (v := .bool e1) (by simp only [execOp, hop, hv, hv2, asBool, Sem.run_bind, Sem.run_pure, Result.andThen_ok, if_true]) (.bool ..) hk hok
      | false =>
        have hv2 := evu_bool hT hrep n3 hz
        exact does_val (v := .bool e2) (by simp only [execOp, hop, hv, hv2, asBool, Sem.run_bind, Sem.run_pure, Result.andThen_ok, Bool.false_eq_true, if_false]) (.bool ..) hk hok
    · exact gen (by rw [hop]; exact h.1) h.2
  · exact gen h.1 h.2

theorem gd_ok {c : Cx} {a : Act} {tm : Nat → PV} {ops : Array Oper} {o : Oper} {K : Bool → Prop} (h : ∀ t, Rep c false (tm t) (a.tmps.getD t undef)) (hg : gd ops.toList o tm K) : ∃ b, Region.wanted o (yielded ops a.tmps) = b ∧ K b ∧ (o.guard = none → b = true) := by
  unfold gd at hg
  unfold Region.wanted
  split at hg
  · rename_i he
    rw [he]
    exact ⟨true, rfl, hg, fun _ => rfl⟩
  · rename_i j want he
    rw [he]
    have hy : ∀ d, (ops.toList[j]?).bind (·.dst) = some d → ∀ v : Value, a.tmps.getD d undef = v → yielded ops a.tmps j = (match v with | .bool b => some b | _ => none) := fun d hd v hv => by
      rw [Array.getElem?_toList] at hd
      subst hv
      simp only [yielded, hd, Option.bind_some, Array.getD_eq_getD_getElem?]
      cases hq : a.tmps[d]? with
      | none => rfl
      | some v => cases v <;> rfl
    split at hg
    · rename_i d hd
      have hr := h d
      split at hg
      · rename_i b hb
        rw [hb] at hr
        refine ⟨b == want, ?_, hg, fun h => by cases h⟩
        have hv : a.tmps.getD d undef = .bool b := by
          generalize a.tmps.getD d undef = v at hr
          cases hr
          rfl
        simp only [hy d hd _ hv]
        cases b <;> cases want <;> rfl
      · rename_i g b hb
        rw [hb] at hr
        refine ⟨g && (b == want), ?_, hg, fun h => by cases h⟩
        cases hr with
        | opt _ _ _ _ h1 h2 =>
          cases g with
          | true =>
            have hv : a.tmps.getD d undef = .bool b := by
              have hr := h1 rfl
              generalize a.tmps.getD d undef = v at hr
              cases hr
              rfl
            simp only [hy d hd _ hv]
            cases b <;> cases want <;> rfl
          | false =>
            simp only [hy d hd _ (h2 rfl)]
            rfl
      · exact hg.elim
    · exact hg.elim

/-- What a plain operation under a guard may be guessed to give. -/
def ldv (ti : TI) (cs : Cells) (i j : Nat) : PV :=
  if ti.k.agg then match cs with
    | .rows _ rs => .agg (((rs.getD i []).drop j).take ti.sz)
    | _ => .any
  else cs.get i j
def binv (op : BinOp) (x y : PV) : PV := match x, y with
  | .int k a, .int _ b => match op with
    | .add => .int k (k.wrap (a + b))
    | .sub => .int k (k.wrap (a - b))
    | .mul => .int k (k.wrap (a * b))
    | .quo => .int k (k.wrap (a.tdiv b))
    | .rem => .int k (a.tmod b)
    | .and => .int k (k.wrap (BitVec.ofInt k.bits a &&& BitVec.ofInt k.bits b).toNat)
    | .or => .int k (k.wrap (BitVec.ofInt k.bits a ||| BitVec.ofInt k.bits b).toNat)
    | .xor => .int k (k.wrap (BitVec.ofInt k.bits a ^^^ BitVec.ofInt k.bits b).toNat)
    | .eql => .bool (decide (a = b))
    | .neq => .bool (!decide (a = b))
    | .lss => .bool (decide (a < b))
    | .leq => .bool (decide (a ≤ b))
    | .gtr => .bool (decide (b < a))
    | .geq => .bool (decide (b ≤ a))
    | .shl => .int k (k.wrap (a * 2 ^ (min b.toNat k.bits)))
    | .shr => .int k (a.fdiv (2 ^ (min b.toNat k.bits)))
    | _ => .any
  | .bool a, .bool b => match op with
    | .eql => .bool (a == b)
    | .neq => .bool (!(a == b))
    | _ => .any
  | .str a, .str b => match op with
    | .eql => .bool (decide (a = b))
    | .neq => .bool (!decide (a = b))
    | .add => .str (a ++ b)
    | _ => .any
  | _, _ => .any
def mxv (mx : Bool) (k : IntKind) : Int → List PV → Option PV
  | a, [] => some (.int k a)
  | a, .int _ b :: r => if mx then mxv mx k (if b > a then b else a) r else mxv mx k (if b < a then b else a) r
  | _, _ => none
def strv (td : TI) (cs : Cells) : Option PV := match td.k with
  | .str => match cs with
    | .ints .u8 xs => some (.str (xs.foldl (fun r n => r.push (UInt8.ofNat n.toNat)) ByteArray.empty))
    | .rows _ [] => some (.str ByteArray.empty)
    | _ => none
  | _ => none
def sugI (T : Ty) (tm : Nat → PV) (d : Int) : Option Operand → Option Int
  | none => some d
  | some x => match evu T tm 0 x with
    | .int _ i => some i
    | _ => none
def sug (T : Ty) (o : Oper) (tm : Nat → PV) (H : Nat → Option Blk) : Option PV := match o.op with
  | .move x | .assign x => some (evu T tm o.type x)
  | .pick x y z => match evu T tm 0 x, evu T tm o.type y, evu T tm o.type z with
    | .bool t, .bool e1, .bool e2 => some (.bool (if t then e1 else e2))
    | _, _, _ => none
  | .load t x => match T t with
    | some ti => match evu T tm 0 x with
      | .ptr id i j _ => match H id with
        | some b => some (ldv ti b.cs i j)
        | none => none
      | .rop cs i j => some (ldv ti cs i j)
      | _ => none
    | none => none
  | .fieldAddr t x f => match T t with
    | some ti => match ti.k with
      | .struct fs => match fs[f]?, evu T tm 0 x with
        | some (_, off), .ptr id i j tot => some (.ptr id i (j + off) tot)
        | some (_, off), .rop cs i j => some (.rop cs i (j + off))
        | _, _ => none
      | _ => none
    | none => none
  | .indexAddr t x ix => match evu T tm 0 ix, evu T tm t x with
    | .int _ i, .ro cs => some (.rop cs i.toNat 0)
    | .int _ i, .sl id off _ tot => some (.ptr id (off + i.toNat) 0 tot)
    | .int _ i, .asl id j _ => match T (ety T t) with
      | some te => some (.ptr id 0 (j + i.toNat * te.sz) 1)
      | none => none
    | .int _ i, .ptr id a j tot => match T t with
      | some ti => match ti.k with
        | .arr _ e => match T e with
          | some te => some (.ptr id a (j + i.toNat * te.sz) tot)
          | none => none
        | _ => none
      | none => none
    | .int _ i, .rop cs a j => match T t with
      | some ti => match ti.k with
        | .arr _ e => match T e with
          | some te => some (.rop cs a (j + i.toNat * te.sz))
          | none => none
        | _ => none
      | none => none
    | _, _ => none
  | .binOp op t x y u => some (binv op (evu T tm t x) (evu T tm u y))
  | .unOp op t x => match op, evu T tm t x with
    | .not, .bool b => some (.bool (!b))
    | .neg, .int k a => some (.int k (k.wrap (0 - a)))
    | _, _ => none
  | .convert _ d x => match T d, evu T tm 0 x with
    | some td, .int _ a => match td.k with
      | .int k => some (.int k (k.wrap a))
      | _ => none
    | some td, .ro cs => strv td cs
    | some td, .nil cs => strv td cs
    | some td, .sl id off m tot => match H id with
      | some b => strv td (if off = 0 ∧ m = tot then b.cs else b.cs.sub off m)
      | none => none
    | _, _ => none
  | .extract x i => match evu T tm 0 x with
    | .tup vs => vs[i]?
    | _ => none
  | .makeFunc fn _ caps => match fn with
    | .func f => some (.fn f (argsP (evu T tm) caps.toList []))
    | _ => none
  | .call c => match c.callee, c.args.toList with
    | .builtin .len, [x] => match evu T tm 0 x with
      | .ro cs => some (.int .i64 cs.len)
      | .nil _ => some (.int .i64 0)
      | .sl _ _ n _ => some (.int .i64 n)
      | .asl _ _ n => some (.int .i64 n)
      | .str s => some (.int .i64 s.size)
      | _ => none
    | .builtin .min, x :: xs => match evu T tm 0 x with
      | .int k a => mxv false k a (xs.map (evu T tm 0))
      | _ => none
    | .builtin .max, x :: xs => match evu T tm 0 x with
      | .int k a => mxv true k a (xs.map (evu T tm 0))
      | _ => none
    | _, _ => none
  | .index t x ix => match T t with
    | some ti => match ti.k with
      | .arr m e => match T e with
        | some te => match evu T tm 0 ix, evu T tm t x with
          | .int _ i, .agg cs => some (if te.k.agg then .agg ((cs.drop (i.toNat * te.sz)).take te.sz) else cs.getD (i.toNat * te.sz) .any)
          | _, _ => none
        | none => none
      | _ => none
    | none => none
  | .slice t x lo hi none => match evu T tm t x with
    | .ro cs => match sugI T tm 0 lo, sugI T tm cs.len hi with
      | some l, some h => some (.ro (cs.sub l.toNat (h.toNat - l.toNat)))
      | _, _ => none
    | .sl id off m tot => match sugI T tm 0 lo, sugI T tm m hi with
      | some l, some h => some (.sl id (off + l.toNat) (h.toNat - l.toNat) tot)
      | _, _ => none
    | .nil cs => some (.nil cs)
    | _ => none
  | .nilCheck x => some (evu T tm 0 x)
  | _ => none

/-- The operations one behind the other. -/
def runs (P : Program) (T : Ty) (nt : Nat) (all : List Oper) : List Oper → St → (St → Prop) → Prop
  | [], st, K => K st
  | o :: os, st, K => gd all o (getT st.tm) fun b => match o.guard with
    | none => step1 P T o (getT st.tm) (getH st.H) st.n true fun pv eff => runs P T nt all os ⟨putT nt st.tm o.dst pv, onL eff st.H, nxt eff st.n⟩ K
    | some _ => match sug T o (getT st.tm) (getH st.H) with
      | some v => (b = true → step1 P T o (getT st.tm) (getH st.H) st.n b fun pv eff => pv = v ∧ eff = []) ∧ runs P T nt all os ⟨putT nt st.tm o.dst (.opt b v), st.H, st.n⟩ K
      | none => (∃ v, (b = true → step1 P T o (getT st.tm) (getH st.H) st.n b fun pv eff => pv = v ∧ eff = []) ∧ runs P T nt all os ⟨putT nt st.tm o.dst (.opt b v), st.H, st.n⟩ K) ∨
        (∃ v E, (b = true → step1 P T o (getT st.tm) (getH st.H) st.n b fun pv eff => pv = v ∧ eff = E) ∧ (b = false → ∀ p ∈ E, getH st.H p.1 = p.2) ∧ runs P T nt all os ⟨putT nt st.tm o.dst (.opt b v), onL E st.H, nxt E st.n⟩ K)

theorem step1_nd {o : Oper} {tm : Nat → PV} {H : Nat → Option Blk} {n : Nat} {b : Bool} {K : PV → Eff → Prop} (h : step1 P T o tm H n b K) : ∀ c, o.op ≠ .defer c := fun c e => by
  unfold step1 at h
  rw [e] at h
  have h2 := h.2
  unfold opv at h2
  rw [e] at h2
  exact h2
theorem runs_okW (hT : TyOk P T) {n0 : Nat} {S : Fr n0} {B : Nat} {W0 : World} {ops : Array Oper} {Q : Exit → Act → World → Prop} {K : St → Prop} {W : List Oper → Act → World → Prop} (hQ : ∀ st a w, K st → Sim S B nt W0 st a w → W [] a w)
    (hW1 : ∀ o l a w, (∀ c, o.op ≠ .defer c) → Region.wanted o (yielded ops a.tmps) = true → o.wp P a w (W l) Q → W (o :: l) a w) (hW2 : ∀ o l a w, Region.wanted o (yielded ops a.tmps) = false → W l (a.put o.dst undef) w → W (o :: l) a w) :
    ∀ (l : List Oper) (st : St) (a : Act) (w : World), runs P T nt ops.toList l st K → Sim S B nt W0 st a w → W l a w
  | [], st, a, w, h, hs => hQ st a w h hs
  | o :: l, st, a, w, h, hs => by
    obtain ⟨c, rfl, hH, hok, hfresh, hrep, hsz, hdef, hbel, hS⟩ := hs
    obtain ⟨b, hw, h1, h0⟩ := gd_ok hrep h
    have goT : b = true → (∀ c, o.op ≠ .defer c) → o.wp P a c.w (W l) Q → W (o :: l) a c.w := fun hb hn h => hW1 o l a c.w hn (hw.trans hb) h
    have goF : b = false → W l (a.put o.dst undef) c.w → W (o :: l) a c.w := fun hb h => hW2 o l a c.w (hw.trans hb) h
    have after : ∀ (pv : PV) (eff : Eff) (v : Value) (c' : Cx), runs P T nt ops.toList l ⟨putT nt st.tm o.dst pv, onL eff st.H, nxt eff st.n⟩ K → Rep c' false pv v → Post c c' B eff → W l (a.put o.dst v) c'.w := fun pv eff v c' hk hp hpost => by
      refine runs_okW hT hQ hW1 hW2 l _ _ _ hk ⟨c', rfl, ?_, hpost.heap, fun id hid hA => ?_, fun t => put_rep (fun t => (hrep t).mono hpost.le) hsz o.dst hp t, by rw [put_size]; exact hsz, by rw [put_defers]; exact hdef.to hpost.only, hbel.trans hpost.below, hS.post hpost⟩
      · rw [hpost.H, hH, getH_on]
      · have hge := nxt_ge eff st.n
        rcases (hpost.A id).1 hA with h | h
        · exact hfresh id (by have : nxt eff st.n ≤ id := hid; omega) h
        · obtain ⟨p, hp, rfl⟩ := List.mem_map.1 h
          have : nxt eff st.n ≤ p.1 := hid
          have := hge.2 p hp
          omega
    have hn : ∀ q, q < 8 → ¬ c.A (st.n + q) := fun q _ => hfresh _ (by omega)
    have joined : ∀ v, (b = true → step1 P T o (getT st.tm) (getH st.H) st.n b fun pv eff => pv = v ∧ eff = []) → runs P T nt ops.toList l ⟨putT nt st.tm o.dst (.opt b v), st.H, st.n⟩ K →
        W (o :: l) a c.w := fun v h2 h3 => by
      cases b with
      | true =>
        have h4 := h2 rfl
        refine goT rfl (step1_nd h4) ?_
        rw [← hH] at h4
        refine step1_ok hT hok hn hrep h4 _ _ fun pv eff u c' hk hp hpost => ?_
        obtain ⟨rfl, rfl⟩ := hk
        exact after (.opt true pv) [] u c' h3 (.opt _ _ _ _ (fun _ => hp) (fun h => by cases h)) hpost
      | false =>
        refine goF rfl ?_
        exact runs_okW hT hQ hW1 hW2 l _ _ _ h3 ⟨c, rfl, hH, hok, hfresh, fun t => put_rep hrep hsz o.dst (.opt _ _ _ _ (fun h => by cases h) (fun _ => rfl)) t, by rw [put_size]; exact hsz, by rw [put_defers]; exact hdef, hbel, hS⟩
    split at h1
    · rename_i hg
      obtain rfl := h0 hg
      refine goT rfl (step1_nd h1) ?_
      rw [← hH] at h1
      refine step1_ok hT hok hn hrep h1 _ _ fun pv eff u c' hk hp hpost => ?_
      exact after pv eff u c' hk hp hpost
    · split at h1
      · exact joined _ h1.1 h1.2
      · rcases h1 with ⟨v, h2, h3⟩ | ⟨v, E, h2, h3⟩
        · exact joined v h2 h3
        · cases b with
          | true =>
            have h4 := h2 rfl
            refine goT rfl (step1_nd h4) ?_
            rw [← hH] at h4
            refine step1_ok hT hok hn hrep h4 _ _ fun pv eff u c' hk hp hpost => ?_
            obtain ⟨rfl, rfl⟩ := hk
            exact after (.opt true pv) eff u c' h3.2 (.opt _ _ _ _ (fun _ => hp) (fun h => by cases h)) hpost
          | false =>
            refine goF rfl ?_
            refine runs_okW hT hQ hW1 hW2 l _ _ _ h3.2 ⟨c, rfl, ?_, hok, fun id hid => hfresh id (Nat.le_trans (nxt_ge E st.n).1 hid), fun t => put_rep hrep hsz o.dst (.opt _ _ _ _ (fun h => by cases h) (fun _ => rfl)) t, by rw [put_size]; exact hsz, by rw [put_defers]; exact hdef, hbel, hS⟩
            rw [hH, getH_on]
            exact (on_same E _ (h3.1 rfl)).symm

theorem runs_ok (hT : TyOk P T) {n0 : Nat} {S : Fr n0} {B : Nat} {W0 : World} {ops : Array Oper} {Q : Exit → Act → World → Prop} {K : St → Prop} (hQ : ∀ st a w, K st → Sim S B nt W0 st a w → Q .normal a w)
    (l : List Oper) (st : St) (a : Act) (w : World) (h : runs P T nt ops.toList l st K) (hs : Sim S B nt W0 st a w) : wpList P ops Q l a w :=
  runs_okW hT (W := wpList P ops Q) hQ (fun o l a w _ hw h => by unfold wpList; rw [hw, if_pos rfl]; exact .inl h) (fun o l a w hw h => by unfold wpList; rw [hw, if_neg (by simp)]; exact h) l st a w h hs

/-! ### Code -/
def SWp (P : Program) (nt n0 : Nat) (c : Code) (Q : Exit → St → Prop) (st : St) : Prop := ∀ (S : Fr n0) (B : Nat) (W0 : World) (a : Act) (w : World), Sim S B nt W0 st a w → c.wp P (fun e a' w' => ∃ st', Q e st' ∧ Sim S B nt W0 st' a' w') a w
def thn (K : St → Prop) (Q : Exit → St → Prop) : Exit → St → Prop
  | .normal, st => K st
  | e, st => Q e st
def inBlk (id : Nat) (Q : Exit → St → Prop) : Exit → St → Prop
  | .exit id', st => if id' = id then Q .normal st else Q (.exit id') st
  | e, st => Q e st
variable {Q : Exit → St → Prop} {st : St}

theorem swp_skip (h : Q .normal st) : SWp P nt n0 .skip Q st := fun S B W0 a w hs => wp_skip ⟨st, h, hs⟩
theorem swp_exit {id : Nat} (h : Q (.exit id) st) : SWp P nt n0 (.exit id) Q st := fun S B W0 a w hs => wp_exit ⟨st, h, hs⟩
theorem swp_ret (h : Q .ret st) : SWp P nt n0 .ret Q st := fun S B W0 a w hs => wp_ret ⟨st, h, hs⟩
theorem swp_seq {x y : Code} (h : ∀ K : St → Prop, (∀ st, SWp P nt n0 y Q st → K st) → SWp P nt n0 x (thn K Q) st) : SWp P nt n0 (.seq x y) Q st := fun S B W0 a w hs => by
  refine wp_seq (wp_mono (h (SWp P nt n0 y Q) (fun _ h => h) S B W0 a w hs) ?_)
  rintro e a' w' ⟨st', h1, h2⟩
  cases e with
  | normal => exact h1 S B W0 a' w' h2
  | _ => exact ⟨st', h1, h2⟩
theorem swp_cond {x : Operand} {c d : Code} {t : Bool} (hx : ev (fun _ => none) (getT st.tm) 0 x = .bool t) (h1 : t = true → SWp P nt n0 c Q st) (h2 : t = false → SWp P nt n0 d Q st) : SWp P nt n0 (.cond x c d) Q st := fun S B W0 a w hs => by
  obtain ⟨cx, rfl, hH, hok, hfresh, hrep, hsz, hdef, hbel, hS⟩ := hs
  have hv : a.eval x = .bool t := by
    cases x with
    | tmp i =>
      have := hrep i
      simp only [ev] at hx
      rw [hx] at this
      show a.tmps.getD i undef = _
      generalize a.tmps.getD i undef = v at this
      cases this
      rfl
    | const v =>
      have := cst_ok (c := cx) [] (by simp) v false
      simp only [ev] at hx
      rw [hx] at this
      cases this
      rfl
    | func f => cases hx
    | global g => cases hx
  exact wp_cond_split hv (fun ht => h1 ht S B W0 a cx.w ⟨cx, rfl, hH, hok, hfresh, hrep, hsz, hdef, hbel, hS⟩) (fun ht => h2 ht S B W0 a cx.w ⟨cx, rfl, hH, hok, hfresh, hrep, hsz, hdef, hbel, hS⟩)
theorem swp_block {id : Nat} {c : Code} (h : SWp P nt n0 c (inBlk id Q) st) : SWp P nt n0 (.block id c) Q st := fun S B W0 a w hs => by
  refine wp_block (wp_mono (h S B W0 a w hs) ?_)
  rintro e a' w' ⟨st', h1, h2⟩
  cases e with
  | exit id' =>
    show if id' = id then _ else _
    have h1' : if id' = id then Q .normal st' else Q (.exit id') st' := h1
    split
    · rename_i he
      rw [if_pos he] at h1'
      exact ⟨st', h1', h2⟩
    · rename_i he
      rw [if_neg he] at h1'
      exact ⟨st', h1', h2⟩
  | _ => exact ⟨st', h1, h2⟩
theorem swp_region (hT : TyOk P T) {id : Nat} {l : List Oper} (h : runs P T nt l l st fun st' => Q .normal st') : SWp P nt n0 (.region id l.toArray false) Q st := fun S B W0 a w hs =>
  wp_region_list (by
    have : l.toArray.toList = l := rfl
    exact runs_ok hT (K := fun st' => Q .normal st') (fun st' a' w' hk hs' => ⟨st', hk, hs'⟩) l st a w (by rw [this]; exact h) hs)

/-! ### What may be forgotten -/
def lo1 (k : Nat) : PV → Bool
  | .sl id _ _ _ => id < k
  | .ptr id _ _ _ => id < k
  | .asl id _ _ => id < k
  | .yld id => id < k
  | .fn _ (_ :: _) | .agg _ | .tup _ | .opt _ _ => false
  | _ => true
def PV.lo (k : Nat) : PV → Bool
  | .fn _ caps => caps.all (lo1 k)
  | .agg cs => cs.all (lo1 k)
  | .tup cs => cs.all (lo1 k)
  | p => lo1 k p
def Cells.lo (k : Nat) : Cells → Bool
  | .ints _ _ => true
  | .rows _ rs => rs.all fun r => r.all (lo1 k)
  | .lp _ ps => ps.all (PV.lo k)
def Blk.lo (k : Nat) (b : Blk) : Bool := !b.box || b.cs.lo k

structure Weak (n0 k : Nat) (s s' : St) : Prop where
  tm : ∀ p ∈ s'.tm, getT s.tm p.1 = p.2 ∧ p.2.lo k = true
  H : ∀ p ∈ s'.H, getH s.H p.1 = p.2 ∧ (∀ b, p.2 = some b → b.lo k = true ∧ p.1 < k)
  n : s'.n = k
  lo : n0 ≤ k
end Go.Pv


namespace Go.Pv
set_option linter.unusedVariables false
set_option linter.unusedSimpArgs false
open Go Go.RowKit
variable {P : Program} {T : Ty} {nt n0 : Nat} {Q : Exit → St → Prop} {st : St}

theorem getT_mem : ∀ (l : List (Nat × PV)) (t : Nat), getT l t = .any ∨ (t, getT l t) ∈ l
  | [], _ => .inl rfl
  | (i, v) :: r, t => by
    simp only [getT]
    by_cases h : i = t
    · subst h; rw [if_pos rfl]; exact .inr (by simp)
    · rw [if_neg h]
      rcases getT_mem r t with h1 | h1
      · exact .inl h1
      · exact .inr (List.mem_cons_of_mem _ h1)


structure Cut (k : Nat) (c c' : Cx) : Prop where
  w : c'.w = c.w
  loc : c'.loc = c.loc
  ow : c'.ow = c.ow
  pk : c'.pk = c.pk
  A : ∀ id, c'.A id ↔ c.A id ∧ id < k
  H : ∀ id b, c'.H id = some b → c.H id = some b ∧ id < k ∧ b.lo k = true

theorem Rep.cut1 {k : Nat} {c c' : Cx} (h : Cut k c c') {q : Bool} {p : PV} {v : Value} (hl : lo1 k p = true) (r : Rep c q p v) : Rep c' q p v := by
  have hb : ∀ b, ¬ c.ow b → b < c.w.heap.size → ¬ c'.ow b ∧ b < c'.w.heap.size ∧ ∀ o, c'.w.cell? ⟨b, o, none⟩ = c.w.cell? ⟨b, o, none⟩ := fun b h1 h2 => by rw [h.w, h.ow]; exact ⟨h1, h2, fun _ => rfl⟩
  cases r with
  | any _ v => exact .any _ v
  | bool _ b => exact .bool _ b
  | int _ k n => exact .int _ k n
  | str _ s => exact .str _ s
  | nilf => exact .nilf _
  | nil _ cs a e => exact .nil _ cs a e
  | ro0 _ cs a cp e => exact .ro0 _ cs a cp e
  | ro _ cs b off cp f h0 hc hb' hlt hcell hr =>
    obtain ⟨h1, h2, h3⟩ := hb b hb' hlt
    exact .ro _ cs b off cp f h0 hc h1 h2 (fun i j hi hj => ⟨(h3 _).trans (hcell i j hi hj).1, (hcell i j hi hj).2⟩) (fun i j hi hj => @Rep.bare c c' hb true rfl _ _ (hr i j hi hj))
  | rop _ cs i0 j0 b off f hb' hlt hcell hr =>
    obtain ⟨h1, h2, h3⟩ := hb b hb' hlt
    exact .rop _ cs i0 j0 b off f h1 h2 (fun i j hi hj => ⟨(h3 _).trans (hcell i j hi hj).1, (hcell i j hi hj).2⟩) (fun i j hi hj => @Rep.bare c c' hb true rfl _ _ (hr i j hi hj))
  | sl id off n tot v ha hs hk =>
    refine .sl id off n tot v ((h.A id).2 ⟨ha, by simpa [lo1] using hl⟩) hs fun blk hb2 => ?_
    rw [h.loc]
    exact hk blk (h.H id blk hb2).1
  | ptr id i j tot v ha hs hk =>
    refine .ptr id i j tot v ((h.A id).2 ⟨ha, by simpa [lo1] using hl⟩) hs fun blk hb2 => ?_
    rw [h.loc]
    exact hk blk (h.H id blk hb2).1
  | asl id j n v ha hs hk =>
    refine .asl id j n v ((h.A id).2 ⟨ha, by simpa [lo1] using hl⟩) hs fun blk hb2 => ?_
    rw [h.loc]
    exact hk blk (h.H id blk hb2).1
  | yld id v ha hs hk =>
    refine .yld id v ((h.A id).2 ⟨ha, by simpa [lo1] using hl⟩) hs fun blk hb2 => ?_
    rw [h.loc]
    exact hk blk (h.H id blk hb2).1
  | fn _ f caps vs h1 h2 =>
    cases caps with
    | nil => exact .fn _ f [] vs h1 (fun i q v h => by simp at h)
    | cons => simp [lo1] at hl
  | agg => simp [lo1] at hl
  | tup => simp [lo1] at hl
  | opt => simp [lo1] at hl
  | old Te cs v hd => exact .old Te cs v (hd.mono (fun b h1 => let ⟨k1, k2, k3⟩ := hb b h1.1 h1.2; ⟨⟨k1, k2⟩, k3⟩) fun b h1 => by rw [h.pk, h.w]; exact ⟨h1, rfl⟩)
  | oldp Te cs i0 j0 b off arr f h1 h2 h3 h4 => exact .oldp Te cs i0 j0 b off arr f (by rw [h.pk]; exact h1) (by rw [h.w]; exact h2) h3 fun i j hi hj => (h4 i j hi hj).mono (fun b h1 => let ⟨k1, k2, k3⟩ := hb b h1.1 h1.2; ⟨⟨k1, k2⟩, k3⟩) fun b h1 => by rw [h.pk, h.w]; exact ⟨h1, rfl⟩
  | uint _ k n => exact .uint _ k n
theorem Rep.cut {k : Nat} {c c' : Cx} (h : Cut k c c') {q : Bool} {p : PV} {v : Value} (hl : p.lo k = true) (r : Rep c q p v) : Rep c' q p v := by
  cases p with
  | fn f caps =>
    cases r with
    | fn _ _ _ vs h1 h2 => exact .fn _ f caps vs h1 fun i p v h3 h4 => (h2 i p v h3 h4).cut1 h (List.all_eq_true.1 hl p (List.mem_of_getElem? h3))
  | agg cs =>
    cases r with
    | agg _ _ vs h1 h2 => exact .agg _ cs vs h1 fun i p v h3 h4 => (h2 i p v h3 h4).cut1 h (List.all_eq_true.1 hl p (List.mem_of_getElem? h3))
  | tup cs =>
    cases r with
    | tup _ _ vs h1 h2 => exact .tup _ cs vs h1 fun i p v h3 h4 => (h2 i p v h3 h4).cut1 h (List.all_eq_true.1 hl p (List.mem_of_getElem? h3))
  | _ => exact r.cut1 h hl

theorem lo_get {k : Nat} {cs : Cells} (h : cs.lo k = true) (i j : Nat) : lo1 k (cs.get i j) = true := by
  cases cs with
  | ints => rfl
  | lp => rfl
  | rows w rs =>
    simp only [Cells.get, List.getD_eq_getElem?_getD]
    cases hi : rs[i]? with
    | none => rfl
    | some r =>
      simp only [Option.getD_some]
      cases hj : r[j]? with
      | none => rfl
      | some p => exact List.all_eq_true.1 (List.all_eq_true.1 h r (List.mem_of_getElem? hi)) p (List.mem_of_getElem? hj)

theorem lp_lo {k : Nat} {L' : Loop} {ps : List PV} (h : (Cells.lp L' ps).lo k = true) (t : Nat) : (ps.getD t .any).lo k = true := by
  rw [List.getD_eq_getElem?_getD]
  cases ht : ps[t]? with
  | none => rfl
  | some p => exact List.all_eq_true.1 h p (List.mem_of_getElem? ht)
theorem weak_ok {n0 : Nat} {S : Fr n0} {B : Nat} {W0 : World} {k : Nat} {s s' : St} {a : Act} {w : World} (hs : Sim S B nt W0 s a w) (hw : Weak n0 k s s') : Sim S B nt W0 s' a w := by
  obtain ⟨c, rfl, hH, hok, hfresh, hrep, hsz, hdef, hbel, hS⟩ := hs
  let c' : Cx := { c with H := getH s'.H, A := fun id => c.A id ∧ id < k }
  have hcut : Cut k c c' := ⟨rfl, rfl, rfl, rfl, fun _ => Iff.rfl, fun id b hb => by
    have hm := getH_mem s'.H id b hb
    obtain ⟨h1, h2⟩ := hw.H _ hm
    obtain ⟨h3, h4⟩ := h2 b rfl
    exact ⟨by rw [hH]; exact h1, h4, h3⟩⟩
  refine ⟨c', rfl, rfl, ⟨fun id blk hb => ?_, fun id blk g hb hg => hok.own id blk g (hcut.H id blk hb).1 hg, fun i1 i2 b1 b2 g h1 h2 g1 g2 => hok.inj i1 i2 b1 b2 g (hcut.H i1 b1 h1).1 (hcut.H i2 b2 h2).1 g1 g2, hok.base, hok.lt, fun b hb => let ⟨h1, h2, h3⟩ := hok.pk b hb; ⟨h1, ⟨h2.1, fun id b' h' => h2.2 id b' (hcut.H id b' h').1⟩, h3⟩⟩, fun id hid hA => ?_, fun t => ?_, hsz, Dfs.to (c := c) (c' := c') (fun b hb => ⟨⟨hb.1, fun id b' h' => hb.2 id b' (hcut.H id b' h').1⟩, rfl, fun h => h⟩) hdef, hbel, ⟨hS.s, ⟨hS.le.stable, fun id h => ⟨hS.le.all id h, Nat.lt_of_lt_of_le (hS.lt id h) hw.lo⟩, fun id b' h h' => hS.le.ids id b' h (hcut.H id b' h').1, fun b hb => hS.le.park b hb⟩, fun b hb => let ⟨h1, h2, h3⟩ := hS.only b hb; ⟨⟨h1.1, fun id b' h' => h1.2 id b' (hcut.H id b' h').1⟩, h2, h3⟩, hS.lt, hS.sz, hS.pkn⟩⟩
  · obtain ⟨h1, h2, h3⟩ := hcut.H id blk hb
    obtain ⟨h4, h5⟩ := hok.ok id blk h1
    refine ⟨⟨h4, h2⟩, ?_⟩
    unfold BlkOk at h5 ⊢
    split
    · rename_i hbox
      rw [if_pos hbox] at h5
      obtain ⟨g, vs, T', e1, e2, e3, e4⟩ := h5
      have hlo : blk.cs.lo k = true := by simpa [Blk.lo, hbox] using h3
      exact ⟨g, vs, T', e1, e2, e3.to rfl (fun L' ps he t ht => ht.cut hcut (lp_lo (by rw [he] at hlo; exact hlo) t)), e4.1, fun i j hi hj => by obtain ⟨v, h6, h7, h8⟩ := e4.2 i j hi hj; exact ⟨v, h6, h7.cut1 hcut (lo_get hlo i j), h8⟩⟩
    · rename_i hbox
      rw [if_neg hbox] at h5
      obtain ⟨vs, e1, e2⟩ := h5
      exact ⟨vs, e1, e2.1, fun i j hi hj => by obtain ⟨v, h6, h7, h8⟩ := e2.2 i j hi hj; exact ⟨v, h6, @Rep.bare c c' (fun b h1 h2 => ⟨h1, h2, fun _ => rfl⟩) true rfl _ _ h7, h8⟩⟩
  · rw [hw.n] at hid
    have := hA.2
    omega
  · rcases getT_mem s'.tm t with h | h
    · rw [h]; exact .any ..
    · obtain ⟨h1, h2⟩ := hw.tm _ h
      have := hrep t
      rw [h1] at this
      exact this.cut hcut h2

/-- A loop: what holds of the state at its head, with a number that falls. -/
theorem swp_loop {c : Code} (k : Nat) (I : Nat → St → Prop) (m0 : Nat) (s0 : St) (hw : Weak n0 k st s0) (h0 : I m0 s0)
    (round : ∀ m s, I m s → ∀ K : St → Prop, (∀ s1 s2 m', m' < m → I m' s2 → Weak n0 k s1 s2 → K s1) → SWp P nt n0 c (thn K Q) s) : SWp P nt n0 (.loop c) Q st := fun S B W0 a w hs => by
  refine wp_loop_ghost (fun m a w => ∃ s, I m s ∧ Sim S B nt W0 s a w) m0 ⟨s0, h0, weak_ok hs hw⟩ ?_
  rintro m a w ⟨s, hI, hs⟩
  refine wp_mono (round m s hI (fun s1 => ∃ s2 m', m' < m ∧ I m' s2 ∧ Weak n0 k s1 s2) (fun s1 s2 m' h1 h2 h3 => ⟨s2, m', h1, h2, h3⟩) S B W0 a w hs) ?_
  rintro e a' w' ⟨s1, h1, h2⟩
  cases e with
  | normal =>
    obtain ⟨s2, m', h3, h4, h5⟩ := h1
    exact ⟨m', h3, s2, h4, weak_ok h2 h5⟩
  | _ => exact ⟨s1, h1, h2⟩

/-! ### A function -/
def resP (T : Ty) (H : Nat → Option Blk) (tm : Nat → PV) : List ResultVar → (List PV → Prop) → Prop
  | [], K => K []
  | .tmp t :: r, K => resP T H tm r fun ps => K (tm t :: ps)
  | .cell x t :: r, K => match T t with
    | some ti => ldP ti H (tm x) fun p => resP T H tm r fun ps => K (p :: ps)
    | none => False
def rvS (tmps : Array Value) : ResultVar → Sem Value
  | .tmp t => pure (tmps.getD t undef)
  | .cell a t => do loadVar t (← asAddr (tmps.getD a undef))
theorem load_ptr (hT : TyOk P T) {c : Cx} {B : Nat} (hok : HeapOk c B) {t : TypeId} {ti : TI} (ht : T t = some ti) {p : PV} {v : Value} (hx : Rep c false p v) {K : PV → Prop} (h : ldP ti c.H p K) : ∃ u pv, (do loadVar t (← asAddr v) : Sem Value).run P c.w = .ok u c.w ∧ Rep c false pv u ∧ K pv := by
  have key : ∀ ad, v = .pointer (some ad) → (do loadVar t (← asAddr v) : Sem Value) = Instr.loadAt t (.pointer (some ad)) := fun ad e => by subst e; rfl
  cases p <;> try (exact h.elim)
  case ptr id i j tot =>
    unfold ldP at h
    dsimp only at h
    split at h
    · rename_i b hb
      obtain ⟨hl, h⟩ := h
      obtain ⟨g, hg, hv, hat⟩ := ptr_own hok hx hb hl
      obtain ⟨u, pv, hr, hrep, hk⟩ := load_at hT ht hat h
      rw [Nat.zero_add] at hr
      exact ⟨u, pv, by rw [key _ hv]; exact hr, hrep, hk⟩
    · exact h.elim
  case rop cs i j =>
    obtain ⟨b, off, hv, hat, _, _⟩ := rop_at hx
    obtain ⟨u, pv, hr, hrep, hk⟩ := load_at (K := K) hT ht hat h
    exact ⟨u, pv, by rw [key _ hv]; exact hr, hrep.loose, hk⟩
theorem res_ok (hT : TyOk P T) {c : Cx} {B : Nat} (hok : HeapOk c B) {tm : Nat → PV} {tmps : Array Value} (hrep : ∀ t, Rep c false (tm t) (tmps.getD t undef)) : ∀ (rs : List ResultVar) (K : List PV → Prop), resP T c.H tm rs K →
    ∃ us ps, (rs.mapM (rvS tmps)).run P c.w = .ok us c.w ∧ K ps ∧ RepL c false ps us
  | [], K, h => ⟨[], [], rfl, h, .nil⟩
  | .tmp t :: r, K, h => by
    obtain ⟨us, ps, h1, h2, h3⟩ := res_ok hT hok hrep r _ h
    refine ⟨tmps.getD t undef :: us, _, ?_, h2, .cons (hrep t) h3⟩
    simp only [List.mapM_cons, rvS, Sem.run_bind, Sem.run_pure, Result.andThen_ok, h1]
  | .cell x t :: r, K, h => by
    unfold resP at h
    split at h
    · rename_i ti ht
      obtain ⟨u, pv, h1, h2, h3⟩ := load_ptr hT hok ht (hrep x) h
      obtain ⟨us, ps, h4, h5, h6⟩ := res_ok hT hok hrep r _ h3
      refine ⟨u :: us, _, ?_, h5, .cons h2 h6⟩
      rw [List.mapM_cons, Sem.run_bind]
      rw [show (rvS tmps (.cell x t)).run P c.w = .ok u c.w from h1]
      simp only [Sem.run_bind, Sem.run_pure, Result.andThen_ok, h4]
    · exact h.elim
theorem results_run {fn : Func} {tmps : Array Value} {us : List Value} {w : World} (h : (fn.results.toList.mapM (rvS tmps)).run P w = .ok us w) : (results fn tmps).run P w = .ok (match us with | [u] => u | us => .tuple us.toArray) w := by
  have e : results fn tmps = (do
      let vs ← fn.results.mapM (rvS tmps)
      pure (if h : vs.size = 1 then vs[0] else .tuple vs)) := rfl
  rw [e, Array.mapM_eq_mapM_toList]
  simp only [Sem.run_bind, Sem.run_map, h, Result.andThen_ok]
  match us with
  | [] => rfl
  | [u] => rfl
  | u :: v :: us => simp

def tupOf : List PV → PV
  | [p] => p
  | ps => .tup ps
def fnPost (T : Ty) (fn : Func) (r : PV) : Exit → St → Prop := fun e st => (e = .normal ∨ e = .ret) ∧ resP T (getH st.H) (getT st.tm) fn.results.toList fun vs => frzA (getH st.H) vs fun ps _ => r = tupOf ps
def argT : Nat → List PV → List (Nat × PV)
  | _, [] => []
  | i, p :: ps => (i, p) :: argT (i + 1) ps

theorem argT_get : ∀ (ps : List PV) (i t : Nat), getT (argT i ps) t = if t < i then .any else (ps[t - i]?).getD .any
  | [], i, t => by simp [argT, getT]
  | p :: ps, i, t => by
    simp only [argT, getT]
    by_cases h : i = t
    · subst h; simp
    · rw [if_neg h, argT_get ps (i + 1) t]
      by_cases h2 : t < i
      · rw [if_pos (by omega), if_pos h2]
      · rw [if_neg (by omega), if_neg h2, show t - i = (t - (i + 1)) + 1 by omega, List.getElem?_cons_succ]

/-! ### Blocks of ranges over functions: marks taken, records turned -/
/-- An idle block of somebody's own turns. -/
def turn (c : Cx) (D : Nat) (o : Obj) : Cx := { c with w := c.w.putObj D o }
theorem idle_ne {c : Cx} {D : Nat} (hi : c.idle D) {id : Nat} {blk : Blk} (h : c.H id = some blk) {g : Nat} (hg : blkOf (c.loc id) = some g) : g ≠ D := fun e => hi.2 id blk h (by rw [hg, e])
theorem turn_le {c : Cx} {D : Nat} (ho : c.ow D) (hp : ¬ c.pk D) (o : Obj) : c.Le (turn c D o) :=
  ⟨fun b h1 h2 => ⟨h1, by show b < (c.w.putObj D o).heap.size; rw [World.putObj_size]; exact h2, fun k => World.cell?_of_block (World.putObj_heap_other (fun e => h1 (by have e' : b = D := e; rw [e']; exact ho)))⟩, fun _ h => h, fun id blk _ h => ⟨blk, h, Nat.le_refl _, rfl, rfl, fun _ => rfl⟩, fun b hb => ⟨hb, World.putObj_heap_other (fun e => hp (by have e' : b = D := e; rw [← e']; exact hb))⟩⟩
theorem turn_ok {c : Cx} {B D : Nat} (hi : c.idle D) (ho : c.ow D) (hp : ¬ c.pk D) (o : Obj) (hok : HeapOk c B) : HeapOk (turn c D o) B :=
  ⟨fun id blk h => ⟨(hok.ok id blk h).1, (hok.ok id blk h).2.mono (turn_le ho hp o) fun g hg => World.putObj_heap_other (idle_ne hi h hg)⟩, hok.own, hok.inj, by show B ≤ (c.w.putObj D o).heap.size; rw [World.putObj_size]; exact hok.base, fun b h => by show b < (c.w.putObj D o).heap.size; rw [World.putObj_size]; exact hok.lt b h, fun b hb => let ⟨h1, h2, vs, T, h3⟩ := hok.pk b hb; ⟨h1, ⟨by show b < (c.w.putObj D o).heap.size; rw [World.putObj_size]; exact h2.1, h2.2⟩, vs, T, (World.putObj_heap_other (fun e => hp (by have e' : b = D := e; rw [← e']; exact hb))).trans h3⟩⟩
theorem turn_idle {c : Cx} {D : Nat} (o : Obj) {b : Nat} (h : c.idle b) : (turn c D o).idle b := ⟨by show b < (c.w.putObj D o).heap.size; rw [World.putObj_size]; exact h.1, h.2⟩
theorem turn_below {c : Cx} {B D : Nat} (hB : B ≤ D) (o : Obj) : Below B c.w (turn c D o).w := ⟨rfl, rfl, rfl, by show c.w.heap.size ≤ (c.w.putObj D o).heap.size; rw [World.putObj_size]; exact Nat.le_refl _, fun k hk => World.putObj_heap_other (by omega)⟩
theorem turn_keep {n0 : Nat} {S : Fr n0} {B : Nat} {W0 : World} {c : Cx} {D : Nat} (hD : S.c0.w.heap.size ≤ D) (hi : c.idle D) (ho : c.ow D) (hp : ¬ c.pk D) (o : Obj) (h : Keep S B W0 c) : Keep S B W0 (turn c D o) :=
  ⟨h.s, h.le.trans (turn_le ho hp o), fun b hb => let ⟨h1, h2, h3⟩ := h.only b hb; ⟨turn_idle o h1, (World.putObj_heap_other (by have := hb.1; omega)).trans h2, h3⟩, h.lt, by show _ ≤ (c.w.putObj D o).heap.size; rw [World.putObj_size]; exact h.sz, h.pkn⟩
theorem turn_dfs {N : Nat} {c : Cx} {D : Nat} (o : Obj) : ∀ {l : List Deferred}, Dfs N c l → (∀ d ∈ l, d.target ≠ .collected D) → Dfs N (turn c D o) l
  | [], _, _ => trivial
  | d :: ds, hd, hn => by
    obtain ⟨⟨D', e, h1, h2, h3, h4, h5⟩, h6⟩ := hd
    refine ⟨⟨D', e, h1, turn_idle o h2, h3, (World.putObj_heap_other fun e' => ?_).trans h4, h5⟩, turn_dfs o h6 fun d' h' => hn d' (by simp [h'])⟩
    have := hn d (by simp)
    rw [e, e'] at this
    exact this rfl
/-- What must hold where the body ends, whatever marks are taken behind it. -/
theorem leave_marks {fn : Func} {tmps : Array Value} {R : Ending → World → Prop} {n0 : Nat} {S : Fr n0} {B : Nat} {W0 : World} (hBN : B ≤ S.c0.w.heap.size) : ∀ (l : List Deferred) (c : Cx), Dfs S.c0.w.heap.size c l → HeapOk c B → Below B W0 c.w → Keep S B W0 c →
    (∀ c', c.Le c' → c'.H = c.H → c'.A = c.A → c'.loc = c.loc → HeapOk c' B → Below B W0 c'.w → Keep S B W0 c' → ∃ v, (results fn tmps).run P c'.w = .ok v c'.w ∧ R (.returned v) c'.w) → LeavesInM Fence.wide 0 P fn tmps R l .returning c.w
  | [], c, _, hok, hb, hk, h => h c (.refl c) rfl rfl rfl hok hb hk
  | d :: ds, c, hd, hok, hb, hk, h => by
    obtain ⟨⟨D, e, h1, h2, h3, h4, h5⟩, h6⟩ := hd
    refine ⟨by simp, .inl ⟨D, _, by rw [e], run_takeDeferred h4, ?_⟩⟩
    have hp : ¬ c.pk D := fun h => by
      obtain ⟨_, _, vs, T, e'⟩ := hok.pk D h
      rw [h4] at e'
      cases e'
    refine leave_marks hBN ds (turn c D (.deferred none)) (turn_dfs _ h6 h5) (turn_ok h2 h3 hp _ hok) (hb.trans (turn_below (by omega) _)) (turn_keep h1 h2 h3 hp _ hk) fun c' k1 k2 k3 k4 k5 k6 k7 => ?_
    exact h c' ((turn_le h3 hp _).trans k1) k2 k3 k4 k5 k6 k7
theorem calls_of_marks {f : FuncId} {fn : Func} {c : Code} {args : Array Value} {w : World} {R : Ending → World → Prop} (hf : P.funcs[f]? = some fn) (hb : fn.body = some c)
    (h : c.wp P (bodyPostM Fence.wide 0 P fn R) { tmps := args ++ Array.replicate (fn.ntmps - args.size) undef, defers := [] } w) : Calls P f args w R :=
  (callsIn_wide (n := 0)).1 (callsIn_of_wp_marks hf hb trivial ((wpIn_wide (n := 0)).2 h) rfl)
/-- A function's contract, out of a walk of its body. -/
theorem pcall_body (hT : TyOk P T) {f : FuncId} {fn : Func} {code : Code} {ps : List PV} {r : PV} (hf : P.funcs[f]? = some fn) (hb : fn.body = some code) (hname : (fn.name == "runtime.NumGoroutine") = false) (hlen : ps.length ≤ fn.ntmps)
    (h : SWp P fn.ntmps 0 code (fnPost T fn r) ⟨argT 0 ps, [], 0⟩) : PCall P f ps r := by
  refine ⟨⟨fn, hf, hname, by rw [hb]; rfl⟩, fun w vs S hS hargs => ?_⟩
  have hsz : vs.size ≤ fn.ntmps := by rw [← hargs.1]; exact hlen
  refine calls_of_marks hf hb (wp_mono (h ⟨S, see S w⟩ w.heap.size w _ w ⟨see S w, rfl, rfl, ⟨(fun id blk h => by cases h), (fun id blk g h => by cases h), (fun i1 i2 b1 b2 g h => by cases h), Nat.le_refl _, hS, fun b hb => hb.elim⟩, fun _ _ h => h, fun t => ?_, by simp; omega, trivial, Below.refl _ _, ⟨fun b hb => ⟨hS b hb, hb⟩, .refl _, fun b h => ⟨h, rfl, fun h => h⟩, fun id h => h.elim, Nat.le_refl _, fun b hb => .inl hb⟩⟩) ?_)
  · rw [argT_get, if_neg (by omega), Nat.sub_zero]
    cases hp : ps[t]? with
    | none => exact .any ..
    | some p =>
      have hlt : t < vs.size := by rw [← hargs.1]; exact (List.getElem?_eq_some_iff.1 hp).1
      have hv : vs[t]? = some vs[t] := Array.getElem?_eq_getElem hlt
      have hv' : (vs ++ Array.replicate (fn.ntmps - vs.size) undef)[t]? = some vs[t] := by rw [Array.getElem?_append_left hlt]; exact hv
      rw [Array.getD_eq_getD_getElem?, hv']
      exact (hargs.2 t p _ hp hv).loose
  · rintro e a' w' ⟨st, ⟨he, hr⟩, c0, rfl, hH0, hok0, _, hrep0, _, hdef, hbel0, hSS0⟩
    have key : ∀ c, c0.Le c → c.H = c0.H → c.A = c0.A → c.loc = c0.loc → HeapOk c w.heap.size → Below w.heap.size w c.w → Keep (n0 := 0) ⟨S, see S w⟩ w.heap.size w c → ∃ v, (results fn a'.tmps).run P c.w = .ok v c.w ∧ ∃ v', Ending.returned v = .returned v' ∧ Rep (see S c.w) true r v' ∧ Below w.heap.size w c.w := by
      intro c hle hHc hAc hlc hok hbel hSS
      have hH : c.H = getH st.H := hHc.trans hH0
      have hrep : ∀ t, Rep c false (getT st.tm t) (a'.tmps.getD t undef) := fun t => (hrep0 t).mono hle
      rw [← hH] at hr
      obtain ⟨us, qs, h1, h2, h3⟩ := res_ok hT hok hrep _ _ hr
      obtain ⟨qs', is, hrq, _, hl⟩ := frzA_ok hok _ _ _ h3 h2
      have hlow : ∀ id ∈ is, ∀ g, blkOf (c.loc id) = some g → ¬ S g := by
        intro id hi g hg hs
        obtain ⟨b, hb⟩ : ∃ b, c.H id = some b := (by assumption : ∀ id ∈ is, ∃ b, c.H id = some b) id hi
        have h4 := ((hok.ok id b hb).2.lt hg).1
        have h5 := (hSS.s g hs).1
        omega
      have hl' := hl S (fun b hb => (hSS.s b hb).2) hlow
      have hres := results_run h1
      have hfin : ∃ v, (results fn a'.tmps).run P c.w = .ok v c.w ∧ ∃ v', Ending.returned v = .returned v' ∧ Rep (see S c.w) true r v' ∧ Below w.heap.size w c.w := by
        refine ⟨_, hres, _, rfl, ?_, hbel⟩
        rw [hrq]
        match us, qs', hl' with
        | [], [], _ => exact .tup true [] _ rfl (fun i q v h => by simp at h)
        | [u], [q], hl => exact hl.2 0 q u rfl rfl
        | u :: v :: us, p :: q :: qs, hl => exact .tup true _ _ (by simpa using hl.1) (fun i p u h1 h2 => hl.2 i p u h1 (by simpa using h2))
        | [], _ :: _, hl => exact absurd hl.1 (by simp)
        | [_], [], hl => exact absurd hl.1 (by simp)
        | [_], _ :: _ :: _, hl => exact absurd hl.1 (by simp)
        | _ :: _ :: _, [], hl => exact absurd hl.1 (by simp)
        | _ :: _ :: _, [_], hl => exact absurd hl.1 (by simp)
      exact hfin
    have hlv := leave_marks (P := P) (fn := fn) (tmps := a'.tmps) (R := fun e w' => ∃ v', e = .returned v' ∧ Rep (see S w') true r v' ∧ Below w.heap.size w w') (n0 := 0) (S := ⟨S, see S w⟩) (Nat.le_refl _) a'.defers c0 hdef hok0 hbel0 hSS0 key
    rcases he with rfl | rfl
    · exact hlv
    · exact hlv
end Go.Pv


namespace Go.Pv
set_option linter.unusedVariables false
set_option linter.unusedSimpArgs false
open Go Go.RowKit

/-! ### A table of types, held against the program -/
def lk : List (Nat × TI) → TypeId → Option TI
  | [], _ => none
  | (i, v) :: r, t => if i = t then some v else lk r t
theorem lk_mem : ∀ (l : List (Nat × TI)) (t : Nat) (ti : TI), lk l t = some ti → (t, ti) ∈ l
  | [], _, _, h => by cases h
  | (i, v) :: r, t, ti, h => by
    simp only [lk] at h
    by_cases hi : i = t
    · subst hi; rw [if_pos rfl] at h; cases h; simp
    · rw [if_neg hi] at h
      exact List.mem_cons_of_mem _ (lk_mem r t ti h)

def zero1 : PV → Value → Bool
  | .int k n, .int k' m => k == k' && n == m
  | .bool b, .bool b' => b == b'
  | .str s, .string s' => s.size == 0 && s'.size == 0
  | .nilf, .nilFunc => true
  | .nil cs, .slice none 0 0 => cs.len == 0
  | .any, .agg _ => false
  | .any, .tuple _ => false
  | .any, _ => true
  | _, _ => false
def zeroL : List PV → List Value → Bool
  | [], [] => true
  | p :: ps, v :: vs => zero1 p v && zeroL ps vs
  | _, _ => false
def zeroB : PV → Value → Bool
  | .agg ps, .agg vs => zeroL ps vs.toList
  | p, v => zero1 p v
theorem zero1_ok {p : PV} {v : Value} (h : zero1 p v = true) (c : Cx) (q : Bool) : Rep c q p v := by
  unfold zero1 at h
  split at h
  · simp at h; obtain ⟨rfl, rfl⟩ := h; exact .int ..
  · simp at h; subst h; exact .bool ..
  · simp at h
    obtain ⟨rfl, rfl⟩ := h
    exact .str ..
  · exact .nilf _
  · simp at h; exact .nil _ _ _ h
  · cases h
  · cases h
  · exact .any ..
  · cases h
theorem zeroL_ok : ∀ (ps : List PV) (vs : List Value), zeroL ps vs = true → ∀ (c : Cx) (q : Bool), RepL c q ps vs
  | [], [], _, c, q => .nil
  | p :: ps, v :: vs, h, c, q => by
    simp [zeroL] at h
    exact .cons (zero1_ok h.1 c q) (zeroL_ok ps vs h.2 c q)
  | [], _ :: _, h, _, _ => by cases h
  | _ :: _, [], h, _, _ => by cases h
theorem zeroB_ok {p : PV} {v : Value} (h : zeroB p v = true) : Zero p v := fun c q => by
  unfold zeroB at h
  split at h
  · have := zeroL_ok _ _ h c q
    exact .agg q _ _ (by simpa using this.1) fun i p v h1 h2 => this.2 i p v h1 (by simpa using h2)
  · exact zero1_ok h c q

def kindB (P : Program) (l : List (Nat × TI)) (t : Nat) (ti : TI) : Bool :=
  match ti.k, P.underlying t with
  | .int k, some (.int k') => k == k' && ti.sz == 1
  | .bool, some .bool => ti.sz == 1
  | .str, some .string => ti.sz == 1
  | .slice e, some (.slice e') => e == e' && ti.sz == 1
  | .struct fs, some (.struct F) => (F.toList.map (fun f => (f.type, f.offset)) == fs && fs.all fun p => (lk l p.1).isSome) && (!plainF (lk l) fs || (F.toList.all (fun f => f.name != "_") && (!P.stoodInHeld t && !P.eqGuardType P.depth t)))
  | .arr n e, some (.array n' e') => n == n' && e == e'
  | .other, some d => !aggD d && ti.sz == 1
  | _, _ => false
def tyB (P : Program) (l : List (Nat × TI)) (p : Nat × TI) : Bool :=
  (match P.info? p.1 with
  | some i => i.size == p.2.sz && i.bytes == p.2.bytes && (match i.zero with
    | some z => zeroB p.2.zero z && z.cells.size == p.2.sz
    | none => false)
  | none => false) && kindB P l p.1 p.2 && p.2.em.all fun e => match e with | some cs => cs.len == 0 | none => true

theorem any1_ok {P : Program} {l : List (Nat × TI)} (h : l.all (tyB P l) = true) {t : Nat} {ti : TI} {i : TypeInfo} {z : Value} (ht : lk l t = some ti) (e : ti.zero = .any) (h1 : P.info? t = some i) (h2 : i.zero = some z) : z.oneCell' = true ∧ z.cells = #[z] := by
  have := List.all_eq_true.1 h _ (lk_mem l t ti ht)
  simp only [tyB, Bool.and_eq_true] at this
  have h3 := this.1.1
  rw [h1] at h3
  simp only [h2, e, Bool.and_eq_true] at h3
  have h4 : zeroB .any z = true := h3.2.1
  cases z <;> first | exact ⟨rfl, rfl⟩ | cases h4
theorem tyOk_of {P : Program} {l : List (Nat × TI)} (h : l.all (tyB P l) = true) : TyOk P (lk l) := by
  have hk : ∀ t ti, lk l t = some ti → kindB P l t ti = true := fun t ti ht => by
    have := List.all_eq_true.1 h _ (lk_mem l t ti ht)
    simp only [tyB, Bool.and_eq_true] at this
    exact this.1.2
  have hi : ∀ t ti, lk l t = some ti → ∃ i, P.info? t = some i ∧ i.size = ti.sz ∧ i.bytes = ti.bytes ∧ ∃ z, i.zero = some z ∧ Zero ti.zero z ∧ z.cells.size = ti.sz := fun t ti ht => by
    have := List.all_eq_true.1 h _ (lk_mem l t ti ht)
    simp only [tyB, Bool.and_eq_true] at this
    have h1 := this.1.1
    split at h1
    · rename_i i hi
      split at h1
      · rename_i z hz
        simp at h1
        exact ⟨i, hi, h1.1.1, h1.1.2, z, hz, zeroB_ok h1.2.1, h1.2.2⟩
      · simp at h1
    · cases h1
  refine ⟨fun t ti ht cs hcs => ?_, hi, fun t ti k ht e => ?_, fun t ti ht e => ?_, fun t ti ht e => ?_, fun t ti e' ht e => ?_, fun t ti fs ht e => ?_, fun t ti n e' ht e => ?_, fun t ti ht e => ?_, fun t ti i z ht e h1 h2 => any1_ok h ht e h1 h2, fun t ti fs ht e hp => ?_⟩
  · have := List.all_eq_true.1 h _ (lk_mem l t ti ht)
    simp only [tyB, Bool.and_eq_true] at this
    have h2 := List.all_eq_true.1 this.2 _ hcs
    simpa using h2
  all_goals
    have h1 := hk t ti ht
    unfold kindB at h1
    rw [e] at h1
  · split at h1 <;> first | (rename_i h2 h3; cases h2; simp at h1; exact ⟨by rw [h3, h1.1], h1.2⟩) | (rename_i h2 h3; cases h2) | cases h1
  · split at h1 <;> first | (rename_i h2 h3; cases h2; simp at h1; exact ⟨h3, h1⟩) | (rename_i h2 h3; cases h2) | cases h1
  · split at h1 <;> first | (rename_i h2 h3; cases h2; simp at h1; exact ⟨h3, h1⟩) | (rename_i h2 h3; cases h2) | cases h1
  · split at h1 <;> first | (rename_i h2 h3; cases h2; simp at h1; exact ⟨by rw [h3, h1.1], h1.2⟩) | (rename_i h2 h3; cases h2) | cases h1
  · split at h1 <;> first | (rename_i h2 h3; cases h2; simp at h1; refine ⟨_, h3, h1.1.1, fun p hp => ?_⟩; exact h1.1.2 _ _ hp) | (rename_i h2 h3; cases h2) | cases h1
  · split at h1 <;> first | (rename_i h2 h3; cases h2; simp at h1; rw [h3, h1.1, h1.2]) | (rename_i h2 h3; cases h2) | cases h1
  · split at h1 <;> first | (rename_i h2 h3; cases h2; simp at h1; exact ⟨_, h3, h1⟩) | (rename_i h2 h3; cases h2) | cases h1
  · split at h1 <;> first | (rename_i h2 h3; cases h2; simp only [hp, Bool.and_eq_true, Bool.not_true, Bool.false_or, beq_iff_eq, List.all_eq_true, bne_iff_ne, Bool.not_eq_true'] at h1; exact ⟨_, h3, h1.1.1, h1.2.1, h1.2.2.1, h1.2.2.2⟩) | (rename_i h2 h3; cases h2) | cases h1
end Go.Pv


namespace Go.Pv
set_option linter.unusedVariables false
set_option linter.unusedSimpArgs false
open Go Go.RowKit
variable {P : Program} {T : Ty} {nt : Nat}

/-! ### Regions whose order is drawn: one walk of the text's order serves every order, where what is not ordered does not meet -/
def tmps1 : Operand → List Nat
  | .tmp t => [t]
  | _ => []
def looks (ops : List Oper) (o : Oper) : List Nat := (opnds o.op).flatMap tmps1 ++ (match o.guard with
  | some (j, _) => match (ops[j]?).bind (·.dst) with | some d => [d] | none => []
  | none => [])

theorem evu_congr {tm tm' : Nat → PV} {l : List Operand} (h : ∀ t ∈ l.flatMap tmps1, tm t = tm' t) (t : TypeId) : ∀ x ∈ l, evu T tm t x = evu T tm' t x := by
  intro x hx
  cases x with
  | tmp i =>
    have := h i (List.mem_flatMap.2 ⟨_, hx, by simp [tmps1]⟩)
    simp only [evu, ev, this]
  | const v => rfl
  | func f => rfl
  | global g => rfl
theorem need_congr {tm tm' : Nat → PV} {b : Bool} : ∀ {l : List Operand}, (∀ t ∈ l.flatMap tmps1, tm t = tm' t) → need tm b l = need tm' b l
  | [], _ => rfl
  | x :: l, h => by
    have ih := need_congr (b := b) (l := l) fun t ht => h t (by rw [List.flatMap_cons]; exact List.mem_append_right _ ht)
    cases x with
    | tmp i => simp only [need]; rw [h i (by simp [tmps1]), ih]
    | const v => simp only [need]; exact ih
    | func f => simp only [need]; exact ih
    | global g => simp only [need]; exact ih
theorem step1_congr {o : Oper} {tm tm' : Nat → PV} {H : Nat → Option Blk} {n : Nat} {b : Bool} {K : PV → Eff → Prop} (h : ∀ t ∈ (opnds o.op).flatMap tmps1, tm t = tm' t) : step1 P T o tm H n b K = step1 P T o tm' H n b K := by
  have gen : opv P T o (evu T tm) H n K = opv P T o (evu T tm') H n K := opv_congr fun t x hx => evu_congr h t x hx
  unfold step1
  split
  · rename_i x y z hop
    rw [hop] at h
    simp only [opnds] at h
    have hx := fun t => evu_congr (T := T) h t x (by simp)
    have hy := fun t => evu_congr (T := T) h t y (by simp)
    have hz := fun t => evu_congr (T := T) h t z (by simp)
    rw [hx, hy, hz, gen, need_congr h]
    have n1 : ∀ b, need tm b [x] = need tm' b [x] := fun b => need_congr fun t ht => h t (by simp at ht ⊢; exact .inl ht)
    have n2 : ∀ b, need tm b [y] = need tm' b [y] := fun b => need_congr fun t ht => h t (by simp at ht ⊢; exact .inr (.inl ht))
    have n3 : ∀ b, need tm b [z] = need tm' b [z] := fun b => need_congr fun t ht => h t (by simp at ht ⊢; exact .inr (.inr ht))
    simp only [n1, n2, n3]
  · rw [gen, need_congr h]
theorem step1_loc {o : Oper} {tm : Nat → PV} {H H' : Nat → Option Blk} {n : Nat} {b : Bool} {K : PV → Eff → Prop} (h : ∀ id ∈ rdO T (evu T tm) o.op, H id = H' id) : step1 P T o tm H n b K = step1 P T o tm H' n b K := by
  unfold step1
  simp only [opv_loc h]
theorem rdO_congr {ρ ρ' : TypeId → Operand → PV} {op : Op} (h : ∀ t, ∀ x ∈ opnds op, ρ t x = ρ' t x) : rdO T ρ op = rdO T ρ' op := by
  cases op <;> simp only [opnds] at h <;> simp only [rdO]
  case load t x => rw [h 0 x (by simp)]
  case nilCheck x => rw [h 0 x (by simp)]
  case fieldAddr t x f => rw [h 0 x (by simp)]
  case store t x y => rw [h 0 x (by simp), h t y (by simp)]
  case indexAddr t x i => rw [h t x (by simp), h 0 x (by simp)]
  case slice t x lo hi mx => rw [h t x (by simp), h 0 x (by simp)]
  case convert s d x => rw [h s x (by simp)]
  case buildSlice t l ps =>
    congr 1
    have : ∀ (L : List (Nat × Operand)), (∀ t, ∀ x ∈ L.map (·.2), ρ t x = ρ' t x) → (L.flatMap fun p => (ρ (ety T t) p.2).ids) = L.flatMap fun p => (ρ' (ety T t) p.2).ids := by
      intro L
      induction L with
      | nil => intro _; rfl
      | cons p L ih =>
        intro hL
        rw [List.flatMap_cons, List.flatMap_cons, hL _ p.2 (by simp), ih fun t x hx => hL t x (by simp at hx ⊢; exact .inr hx)]
    exact this ps.toList h
  case call c =>
    cases hc : c.callee with
    | value f =>
      simp only [hc] at h ⊢
      rw [h 0 f (by simp), argsP_congr c.args.toList c.argTypes.toList fun t x hx => h t x (by simp [hx])]
    | builtin b =>
      simp only [hc] at h ⊢
      cases b <;> simp only
      all_goals rw [argsP_congr c.args.toList c.argTypes.toList fun t x hx => h t x (by simpa using hx)]
    | invoke r m => rfl
theorem gd_congr {ops : List Oper} {o : Oper} {tm tm' : Nat → PV} {K : Bool → Prop} (h : ∀ t ∈ looks ops o, tm t = tm' t) : gd ops o tm K = gd ops o tm' K := by
  unfold gd
  split
  · rfl
  · rename_i j want he
    split
    · rename_i d hd
      rw [h d (by simp [looks, he, hd])]
    · rfl

structure Rec where
  b : Bool
  raw : PV
  pv : PV
  eff : Eff
  rd : List Nat
instance : Inhabited Rec := ⟨⟨true, .any, .any, [], []⟩⟩
def putF (nt : Nat) (tm : Nat → PV) (d : Option Nat) (v : PV) : Nat → PV := fun t => if d = some t ∧ t < nt then v else tm t
theorem getT_putT (l : List (Nat × PV)) (d : Option Nat) (v : PV) : getT (putT nt l d v) = putF nt (getT l) d v := by
  funext t
  cases d with
  | none => simp [putT, putF]
  | some d =>
    simp only [putT, putF]
    by_cases hd : d < nt
    · rw [if_pos hd]
      simp only [getT]
      by_cases ht : d = t
      · subst ht; simp [hd]
      · rw [if_neg ht, if_neg (by simp [ht])]
    · rw [if_neg hd, if_neg]
      rintro ⟨h, h'⟩
      cases h
      exact hd h'
/-- The operation, in this state, does what is written down. -/
structure StepR (P : Program) (T : Ty) (ops : List Oper) (o : Oper) (n : Nat) (r : Rec) (tm : Nat → PV) (H : Nat → Option Blk) : Prop where
  g : gd ops o tm fun b => b = r.b
  run : r.b = true → step1 P T o tm H n true fun pv eff => pv = r.raw ∧ eff = r.eff
  no : r.b = false → ∀ p ∈ r.eff, p.1 ∈ r.rd ∧ H p.1 = p.2
  pv : r.pv = r.raw ∧ r.b = true ∨ r.pv = .opt r.b r.raw
  rd : rdO T (evu T tm) o.op = r.rd

structure Ind (ops : List Oper) (oi oj : Oper) (ri rj : Rec) : Prop where
  t1 : ∀ d, oi.dst = some d → d ∉ looks ops oj
  t2 : ∀ d, oi.dst = some d → oj.dst ≠ some d
  t3 : ∀ d, oj.dst = some d → d ∉ looks ops oi
  h1 : ∀ p ∈ ri.eff, p.1 ∉ rj.rd ∧ ∀ q ∈ rj.eff, p.1 ≠ q.1
  h2 : ∀ q ∈ rj.eff, q.1 ∉ ri.rd

theorem eff_comm {e f : Eff} (h : ∀ p ∈ e, ∀ q ∈ f, p.1 ≠ q.1) (H : Nat → Option Blk) : e.on (f.on H) = f.on (e.on H) := by
  funext id
  by_cases hf : ∃ q ∈ f, q.1 = id
  · obtain ⟨q, hq, rfl⟩ := hf
    rw [eff_off (e := e) fun p hp => h p hp q hq]
    exact eff_same (eff_off fun p hp => h p hp q hq).symm
  · have hf' : ∀ q ∈ f, q.1 ≠ id := fun q hq e => hf ⟨q, hq, e⟩
    rw [eff_off (e := f) (H := e.on H) hf']
    exact eff_same (eff_off hf')
theorem putF_comm {tm : Nat → PV} {d d' : Option Nat} {v v' : PV} (h : ∀ x, d = some x → d' ≠ some x) : putF nt (putF nt tm d v) d' v' = putF nt (putF nt tm d' v') d v := by
  funext t
  simp only [putF]
  by_cases h1 : d = some t ∧ t < nt
  · have h2 : ¬ (d' = some t ∧ t < nt) := fun h2 => h t h1.1 h2.1
    rw [if_pos h1, if_neg h2, if_pos h1]
  · rw [if_neg h1]
    by_cases h2 : d' = some t ∧ t < nt
    · rw [if_pos h2, if_neg h1]
    · rw [if_neg h2, if_neg h1]
theorem putF_off {tm : Nat → PV} {d : Option Nat} {v : PV} {t : Nat} (h : d ≠ some t) : putF nt tm d v t = tm t := if_neg (fun h' => h h'.1)

theorem StepR.congr {ops : List Oper} {o : Oper} {n : Nat} {r : Rec} {tm tm' : Nat → PV} {H H' : Nat → Option Blk} (ht : ∀ t ∈ looks ops o, tm t = tm' t) (hh : ∀ id ∈ r.rd, H id = H' id) (h : StepR P T ops o n r tm H) : StepR P T ops o n r tm' H' := by
  have h1 : ∀ t ∈ (opnds o.op).flatMap tmps1, tm t = tm' t := fun t h => ht t (List.mem_append_left _ h)
  have h2 : rdO T (evu T tm') o.op = r.rd := by rw [← h.rd]; exact rdO_congr fun t x hx => (evu_congr h1 t x hx).symm
  refine ⟨by rw [← gd_congr ht]; exact h.g, fun hb => ?_, fun hb p hp => ⟨(h.no hb p hp).1, (hh p.1 (h.no hb p hp).1).symm.trans (h.no hb p hp).2⟩, h.pv, h2⟩
  rw [← step1_loc (H := H) (fun id hi => hh id (by rw [← h2]; exact hi)), ← step1_congr h1]
  exact h.run hb

theorem commute {ops : List Oper} {oi oj : Oper} {ni nj : Nat} {ri rj : Rec} {tm : Nat → PV} {H : Nat → Option Blk} (hi : StepR P T ops oi ni ri tm H) (hj : StepR P T ops oj nj rj (putF nt tm oi.dst ri.pv) (ri.eff.on H)) (hd : Ind ops oi oj ri rj) :
    StepR P T ops oj nj rj tm H ∧ StepR P T ops oi ni ri (putF nt tm oj.dst rj.pv) (rj.eff.on H) ∧ putF nt (putF nt tm oi.dst ri.pv) oj.dst rj.pv = putF nt (putF nt tm oj.dst rj.pv) oi.dst ri.pv ∧ rj.eff.on (ri.eff.on H) = ri.eff.on (rj.eff.on H) := by
  refine ⟨hj.congr (fun t ht => putF_off fun e => hd.t1 t e ht) (fun id hid => eff_off fun p hp e => (hd.h1 p hp).1 (e ▸ hid)), hi.congr (fun t ht => (putF_off fun e => hd.t3 t e ht).symm) (fun id hid => (eff_off fun p hp e => hd.h2 p hp (e ▸ hid)).symm), putF_comm hd.t2, ?_⟩
  exact eff_comm (fun p hp q hq e => (hd.h1 q hq).2 p hp e.symm) H

/-- Whatever order is picked. -/
def anyA (P : Program) (T : Ty) (nt : Nat) (ops : Array Oper) (n0 : Nat) (recs : Nat → Rec) (Qf : (Nat → PV) → (Nat → Option Blk) → Prop) : Nat → Array Bool → (Nat → PV) → (Nat → Option Blk) → Prop
  | 0, listed, tm, H => Region.ready .any ops listed = [] ∧ Qf tm H
  | f + 1, listed, tm, H => (Region.ready .any ops listed = [] → Qf tm H) ∧ ∀ i ∈ Region.ready .any ops listed, ∀ o, ops[i]? = some o → StepR P T ops.toList o (n0 + 8 * i) (recs i) tm H ∧
      anyA P T nt ops n0 recs Qf f (listed.setIfInBounds i true) (putF nt tm o.dst (recs i).pv) ((recs i).eff.on H)

/-- C: of each operation those that come before it, as bits. -/
structure Clo (ops : Array Oper) (C : Nat → Nat → Bool) : Prop where
  step : ∀ j o i, ops[j]? = some o → C j i = true → ∃ e ∈ o.after, Region.binds .any e = true ∧ (e.on = i ∨ C e.on i = true)
  back : ∀ j o, ops[j]? = some o → ∀ e ∈ o.after, Region.binds .any e = true → e.on < j
def Closed (ops : Array Oper) (listed : Array Bool) : Prop := ∀ j o, ops[j]? = some o → listed.getD j false = true → ∀ e ∈ o.after, Region.binds .any e = true → listed.getD e.on false = true
theorem clo_listed {ops : Array Oper} {C : Nat → Nat → Bool} (hC : Clo ops C) {listed : Array Bool} (hcl : Closed ops listed) : ∀ (m j i : Nat), j < m → listed.getD j false = true → (∃ o, ops[j]? = some o) → C j i = true → i < ops.size → listed.getD i false = true
  | 0, j, i, h, _, _, _, _ => by omega
  | m + 1, j, i, h, hl, ⟨o, ho⟩, hc, hi => by
    obtain ⟨e, he, hb, hor⟩ := hC.step j o i ho hc
    have h1 := hcl j o ho hl e he hb
    have h2 := hC.back j o ho e he hb
    rcases hor with rfl | hor
    · exact h1
    · have hlt : e.on < ops.size := by have := (Array.getElem?_eq_some_iff.1 ho).1; omega
      exact clo_listed hC hcl m e.on i (by omega) h1 ⟨ops[e.on], Array.getElem?_eq_getElem hlt⟩ hor hi
theorem clo_ready {ops : Array Oper} {C : Nat → Nat → Bool} (hC : Clo ops C) {listed : Array Bool} (hcl : Closed ops listed) {j i : Nat} (hj : j ∈ Region.ready .any ops listed) (hc : C j i = true) (hi : i < ops.size) : listed.getD i false = true := by
  obtain ⟨_, o, ho, hall⟩ := mem_ready.1 hj
  obtain ⟨e, he, hb, hor⟩ := hC.step j o i ho hc
  have h1 := hall e he hb
  rcases hor with rfl | hor
  · exact h1
  · have h2 := hC.back j o ho e he hb
    have hlt : e.on < ops.size := by have := (Array.getElem?_eq_some_iff.1 ho).1; omega
    exact clo_listed hC hcl (e.on + 1) e.on i (by omega) h1 ⟨ops[e.on], Array.getElem?_eq_getElem hlt⟩ hor hi
theorem closed_set {ops : Array Oper} {listed : Array Bool} (hcl : Closed ops listed) {j : Nat} (hj : j ∈ Region.ready .any ops listed) : Closed ops (listed.setIfInBounds j true) := by
  intro k o ho hk e he hb
  refine getD_set_true ?_
  by_cases hkj : j = k
  · subst hkj
    obtain ⟨_, o', ho', hall⟩ := mem_ready.1 hj
    rw [ho] at ho'
    cases ho'
    exact hall e he hb
  · rw [getD_set_ne false hkj] at hk
    exact hcl k o ho hk e he hb

theorem anyA_first {ops : Array Oper} {n0 : Nat} {recs : Nat → Rec} {Qf : (Nat → PV) → (Nat → Option Blk) → Prop} {C : Nat → Nat → Bool} (hC : Clo ops C) {i : Nat} {oi : Oper} (hi : ops[i]? = some oi) :
    ∀ (f : Nat) (listed : Array Bool) (tm : Nat → PV) (H : Nat → Option Blk), Closed ops listed → (∀ j oj, ops[j]? = some oj → j ≠ i → listed.getD j true = false → C j i = false → Ind ops.toList oi oj (recs i) (recs j)) →
      i ∈ Region.ready .any ops listed → StepR P T ops.toList oi (n0 + 8 * i) (recs i) tm H → anyA P T nt ops n0 recs Qf f (listed.setIfInBounds i true) (putF nt tm oi.dst (recs i).pv) ((recs i).eff.on H) →
      anyA P T nt ops n0 recs Qf (f + 1) listed tm H
  | 0, listed, tm, H, hcl, hind, hr, hs, hn => by
    refine ⟨(fun h => by rw [h] at hr; cases hr), fun j hj o ho => ?_⟩
    by_cases hji : j = i
    · subst hji
      rw [hi] at ho
      cases ho
      exact ⟨hs, hn⟩
    · have := ready_mono hj hji
      rw [hn.1] at this
      cases this
  | f + 1, listed, tm, H, hcl, hind, hr, hs, hn => by
    refine ⟨(fun h => by rw [h] at hr; cases hr), fun j hj o ho => ?_⟩
    by_cases hji : j = i
    · subst hji
      rw [hi] at ho
      cases ho
      exact ⟨hs, hn⟩
    · obtain ⟨hsj, hnj⟩ := hn.2 j (ready_mono hj hji) o ho
      have hiu : listed.getD i false = false := by
        have h1 := (mem_ready.1 hr).1
        cases h2 : listed.getD i false with
        | false => rfl
        | true =>
          rcases Nat.lt_or_ge i listed.size with h | h
          · simp [h] at h1 h2; rw [h1] at h2; cases h2
          · simp [Array.getElem?_eq_none h] at h2
      have hnc : C j i = false := by
        cases hc : C j i with
        | false => rfl
        | true => rw [clo_ready hC hcl hj hc (Array.getElem?_eq_some_iff.1 hi).1] at hiu; cases hiu
      obtain ⟨c1, c2, c3, c4⟩ := commute hs hsj (hind j o ho hji (mem_ready.1 hj).1 hnc)
      refine ⟨c1, anyA_first hC hi f _ _ _ (closed_set hcl hj) (fun k ok hk hki hun hno => ?_) (ready_mono hr (Ne.symm hji)) c2 ?_⟩
      · refine hind k ok hk hki ?_ hno
        by_cases hjk : j = k
        · subst hjk; exact (mem_ready.1 hj).1
        · rw [getD_set_ne true hjk] at hun; exact hun
      · rw [Array.setIfInBounds_comm _ _ hji, ← c3, ← c4]
        exact hnj

/-! ### From the abstract to the machine -/
theorem wpOp_of {ops : Array Oper} {i : Nat} {o : Oper} {Q : Exit → Act → World → Prop} {K : Act → World → Prop} {a : Act} {w : World} (ho : ops[i]? = some o)
    (h1 : Region.wanted o (yielded ops a.tmps) = true → o.wp P a w K Q) (h2 : Region.wanted o (yielded ops a.tmps) = false → K (a.put o.dst undef) w) : wpOp P ops Q i K a w := by
  unfold wpOp
  simp only [ho]
  split
  · rename_i h; exact .inl (h1 h)
  · rename_i h; exact h2 (by simpa using h)

theorem put_repF {c : Cx} {a : Act} {tm : Nat → PV} (h : ∀ t, Rep c false (tm t) (a.tmps.getD t undef)) (hs : a.tmps.size = nt) (d : Option Nat) {pv : PV} {v : Value} (hp : Rep c false pv v) (t : Nat) : Rep c false (putF nt tm d pv t) ((a.put d v).tmps.getD t undef) := by
  simp only [putF]
  by_cases ht : d = some t ∧ t < nt
  · rw [if_pos ht]
    obtain ⟨rfl, hlt⟩ := ht
    have hd' : t < a.tmps.size := by omega
    simp [Act.put, hd']
    exact hp
  · rw [if_neg ht]
    have h0 := h t
    cases d with
    | none => exact h0
    | some d =>
      by_cases hd : d = t
      · subst hd
        have hge : nt ≤ d := by
          rcases Nat.lt_or_ge d nt with h | h
          · exact absurd ⟨rfl, h⟩ ht
          · exact h
        have : a.tmps.setIfInBounds d v = a.tmps := Array.setIfInBounds_eq_of_size_le (by omega)
        simp only [Act.put, this]
        exact h0
      · simp only [Act.put, Array.getD_eq_getD_getElem?] at h0 ⊢
        rw [Array.getElem?_setIfInBounds_ne hd]
        exact h0

theorem anyA_soundW (hT : TyOk P T) {m0 : Nat} {S : Fr m0} {B : Nat} {W0 : World} {ops : Array Oper} {n0 : Nat} {recs : Nat → Rec} {Qf : (Nat → PV) → (Nat → Option Blk) → Prop} {C : Nat → Nat → Bool} (hC : Clo ops C) {Q Qw : Exit → Act → World → Prop} {W : Nat → Array Bool → Act → World → Prop}
    (hW0 : ∀ listed a w, Region.ready .any ops listed = [] → Q .normal a w → W 0 listed a w)
    (hW1 : ∀ f listed a w, (Region.ready .any ops listed = [] → Q .normal a w) → (∀ i ∈ Region.ready .any ops listed, ∀ o, ops[i]? = some o → (Region.wanted o (yielded ops a.tmps) = true → (∀ c, o.op ≠ .defer c) ∧ o.wp P a w (W f (listed.setIfInBounds i true)) Qw) ∧ (Region.wanted o (yielded ops a.tmps) = false → W f (listed.setIfInBounds i true) (a.put o.dst undef) w)) → W (f + 1) listed a w)
    (hE : ∀ i, i < ops.size → ∀ p ∈ (recs i).eff, p.1 < n0 + 8 * ops.size ∧ ∀ k, k < ops.size → k ≠ i → n0 + 8 * k ≤ p.1 → p.1 < n0 + 8 * k + 8 → C i k = true)
    (hQ : ∀ tm H (c : Cx) a, Qf tm H → c.H = H → HeapOk c B → (∀ id, n0 + 8 * ops.size ≤ id → ¬ c.A id) → (∀ t, Rep c false (tm t) (a.tmps.getD t undef)) → a.tmps.size = nt → Dfs S.c0.w.heap.size c a.defers → Below B W0 c.w → Keep S B W0 c → Q .normal a c.w) :
    ∀ (f : Nat) (listed : Array Bool) (tm : Nat → PV) (H : Nat → Option Blk) (a : Act) (c : Cx), anyA P T nt ops n0 recs Qf f listed tm H → Closed ops listed → c.H = H → HeapOk c B → (∀ k, k < ops.size → listed.getD k true = false → ∀ q, q < 8 → ¬ c.A (n0 + 8 * k + q)) → (∀ id, n0 + 8 * ops.size ≤ id → ¬ c.A id) →
      (∀ t, Rep c false (tm t) (a.tmps.getD t undef)) → a.tmps.size = nt → Dfs S.c0.w.heap.size c a.defers → Below B W0 c.w → Keep S B W0 c → W f listed a c.w
  | 0, listed, tm, H, a, c, h, _, h1, h2, _, h4, h5, h6, h7, h8, h9 => hW0 listed a c.w h.1 (hQ tm H c a h.2 h1 h2 h4 h5 h6 h7 h8 h9)
  | f + 1, listed, tm, H, a, c, h, hcl, hH, hok, hf, hf2, hrep, hsz, hdef, hbel, hS => by
    refine hW1 f listed a c.w (fun h0 => hQ tm H c a (h.1 h0) hH hok hf2 hrep hsz hdef hbel hS) fun i hi o ho => ?_
    obtain ⟨hun, _⟩ := mem_ready.1 hi
    have hlt : i < ops.size := (Array.getElem?_eq_some_iff.1 ho).1
    obtain ⟨hst, hnext⟩ := h.2 i hi o ho
    obtain ⟨b, hw, hb, _⟩ := gd_ok hrep hst.g
    have hfresh := hf i hlt hun
    refine ⟨fun hwt => ?_, fun hwf => ?_⟩
    · rw [hw] at hwt
      subst hwt
      have hrun := hst.run hb.symm
      refine ⟨step1_nd hrun, ?_⟩
      rw [← hH] at hrun
      refine step1_ok hT hok hfresh hrep hrun _ _ fun pv eff v c' hk hp hpost => ?_
      obtain ⟨rfl, rfl⟩ := hk
      refine anyA_soundW hT hC hW0 hW1 hE hQ f _ _ _ _ c' hnext (closed_set hcl hi) (by rw [hpost.H, hH]) hpost.heap (fun k hk hku q hq hA => ?_) (fun id hid hA => ?_) (fun t => put_repF (fun t => (hrep t).mono hpost.le) hsz o.dst ?_ t) (by rw [put_size]; exact hsz) (by rw [put_defers]; exact hdef.to hpost.only) (hbel.trans hpost.below) (hS.post hpost)
      · have hki : k ≠ i := by
          intro e
          subst e
          by_cases hs : k < listed.size
          · simp [hs] at hku
          · simp [Array.getElem?_eq_none (Nat.not_lt.1 hs)] at hku
        rw [getD_set_ne true (Ne.symm hki)] at hku
        rcases (hpost.A _).1 hA with h1 | h1
        · exact hf k hk hku q hq h1
        · obtain ⟨p, hp, he⟩ := List.mem_map.1 h1
          have hc := (hE i hlt p hp).2 k hk hki (by omega) (by omega)
          have := clo_ready hC hcl hi hc hk
          rcases Nat.lt_or_ge k listed.size with h | h
          · simp [h] at hku this; rw [hku] at this; cases this
          · simp [Array.getElem?_eq_none h] at this
      · rcases (hpost.A _).1 hA with h1 | h1
        · exact hf2 id hid h1
        · obtain ⟨p, hp, he⟩ := List.mem_map.1 h1
          have := (hE i hlt p hp).1
          omega
      · rcases hst.pv with ⟨h1, _⟩ | h1
        · rw [h1]; exact hp
        · rw [h1, ← hb]
          exact .opt _ _ _ _ (fun _ => hp) (fun h => by cases h)
    · rw [hw] at hwf
      subst hwf
      have heff : (recs i).eff.on H = H := on_same _ _ fun p hp => (hst.no hb.symm p hp).2
      rw [heff] at hnext
      refine anyA_soundW hT hC hW0 hW1 hE hQ f _ _ _ _ c hnext (closed_set hcl hi) hH hok (fun k hk hku => hf k hk ?_) hf2 (fun t => put_repF hrep hsz o.dst ?_ t) (by rw [put_size]; exact hsz) (by rw [put_defers]; exact hdef) hbel hS
      · have hki : k ≠ i := by
          intro e
          subst e
          by_cases hs : k < listed.size
          · simp [hs] at hku
          · simp [Array.getElem?_eq_none (Nat.not_lt.1 hs)] at hku
        rwa [getD_set_ne true (Ne.symm hki)] at hku
      · rcases hst.pv with ⟨_, h1⟩ | h1
        · rw [← hb] at h1; cases h1
        · rw [h1, ← hb]
          exact .opt _ _ _ _ (fun h => by cases h) (fun _ => rfl)
theorem anyA_sound (hT : TyOk P T) {m0 : Nat} {S : Fr m0} {B : Nat} {W0 : World} {ops : Array Oper} {n0 : Nat} {recs : Nat → Rec} {Qf : (Nat → PV) → (Nat → Option Blk) → Prop} {C : Nat → Nat → Bool} (hC : Clo ops C) {Q : Exit → Act → World → Prop}
    (hE : ∀ i, i < ops.size → ∀ p ∈ (recs i).eff, p.1 < n0 + 8 * ops.size ∧ ∀ k, k < ops.size → k ≠ i → n0 + 8 * k ≤ p.1 → p.1 < n0 + 8 * k + 8 → C i k = true)
    (hQ : ∀ tm H (c : Cx) a, Qf tm H → c.H = H → HeapOk c B → (∀ id, n0 + 8 * ops.size ≤ id → ¬ c.A id) → (∀ t, Rep c false (tm t) (a.tmps.getD t undef)) → a.tmps.size = nt → Dfs S.c0.w.heap.size c a.defers → Below B W0 c.w → Keep S B W0 c → Q .normal a c.w) :
    ∀ (f : Nat) (listed : Array Bool) (tm : Nat → PV) (H : Nat → Option Blk) (a : Act) (c : Cx), anyA P T nt ops n0 recs Qf f listed tm H → Closed ops listed → c.H = H → HeapOk c B → (∀ k, k < ops.size → listed.getD k true = false → ∀ q, q < 8 → ¬ c.A (n0 + 8 * k + q)) → (∀ id, n0 + 8 * ops.size ≤ id → ¬ c.A id) →
      (∀ t, Rep c false (tm t) (a.tmps.getD t undef)) → a.tmps.size = nt → Dfs S.c0.w.heap.size c a.defers → Below B W0 c.w → Keep S B W0 c → wpAny P .any ops Q f listed a c.w :=
  anyA_soundW hT hC (W := fun f listed a w => wpAny P .any ops Q f listed a w) (Qw := Q) (fun listed a w h1 h2 => ⟨h1, h2⟩) (fun f listed a w h1 h2 => ⟨h1, fun i hi => by
    obtain ⟨_, o, ho, _⟩ := mem_ready.1 hi
    obtain ⟨k1, k2⟩ := h2 i hi o ho
    exact wpOp_of ho (fun h => (k1 h).2) k2⟩) hE hQ

end Go.Pv


namespace Go.Pv
set_option linter.unusedVariables false
set_option linter.unusedSimpArgs false
open Go Go.RowKit
variable {P : Program} {T : Ty} {nt : Nat}

/-! ### What goes through gives one answer -/
def Det {α : Type} (F : (α → Prop) → Prop) : Prop := ∀ K, F K → ∃ x, F (fun y => y = x) ∧ K x
def Mon {α : Type} (F : (α → Prop) → Prop) : Prop := ∀ K K' : α → Prop, (∀ x, K x → K' x) → F K → F K'
theorem Det.bind {α β : Type} {F : (α → Prop) → Prop} {G : α → (β → Prop) → Prop} (hF : Det F) (mF : Mon F) (hG : ∀ x, Det (G x)) : Det fun K => F fun x => G x K := fun K h => by
  obtain ⟨x, h1, h2⟩ := hF _ h
  obtain ⟨y, h3, h4⟩ := hG x K h2
  exact ⟨y, mF _ _ (fun z (hz : z = x) => by subst hz; exact h3) h1, h4⟩
theorem Mon.bind {α β : Type} {F : (α → Prop) → Prop} {G : α → (β → Prop) → Prop} (mF : Mon F) (mG : ∀ x, Mon (G x)) : Mon fun K => F fun x => G x K := fun K K' hk h => mF _ _ (fun x hx => mG x K K' hk hx) h
theorem idx_det {x : PV} : Det (idx x) := fun K h => by
  unfold idx at h ⊢
  split at h
  · exact ⟨_, rfl, h⟩
  · exact h.elim
theorem idx_mon {x : PV} : Mon (idx x) := fun K K' hk h => by
  unfold idx at h ⊢
  split at h
  · exact hk _ h
  · exact h.elim
theorem ldC_det {ti : TI} {cs : Cells} {i j : Nat} : Det (ldC ti cs i j) := fun K h => by
  unfold ldC at h ⊢
  split at h
  · rename_i hk
    simp only [hk, if_true]
    split at h
    · exact ⟨_, ⟨h.1, h.2.1, h.2.2.1, rfl⟩, h.2.2.2⟩
    · exact h.elim
  · rename_i hk
    simp only [hk, if_false]
    exact ⟨_, ⟨h.1, h.2.1, rfl⟩, h.2.2⟩
theorem ldC_mon {ti : TI} {cs : Cells} {i j : Nat} : Mon (ldC ti cs i j) := fun K K' hk h => by
  unfold ldC at h ⊢
  split
  · rename_i hk'
    rw [if_pos hk'] at h
    split at h
    · exact ⟨h.1, h.2.1, h.2.2.1, hk _ h.2.2.2⟩
    · exact h.elim
  · rename_i hk'
    rw [if_neg hk'] at h
    exact ⟨h.1, h.2.1, hk _ h.2.2⟩
theorem ldP_det {ti : TI} {H : Nat → Option Blk} {p : PV} : Det (ldP ti H p) := fun K h => by
  cases p <;> try (exact h.elim)
  case ptr id i j tot =>
    simp only [ldP] at h ⊢
    cases hb : H id with
    | none => rw [hb] at h; exact h.elim
    | some b =>
      rw [hb] at h
      obtain ⟨x, h1, h2⟩ := ldC_det K h.2
      exact ⟨x, ⟨h.1, h1⟩, h2⟩
  case rop cs i j => exact ldC_det K h
theorem fldP_det {H : Nat → Option Blk} {off : Nat} {p : PV} : Det (fldP H off p) := fun K h => by
  cases p <;> try (exact h.elim)
  case ptr => exact ⟨_, ⟨h.1, rfl⟩, h.2⟩
  case rop => exact ⟨_, rfl, h⟩
theorem ixS_det {H : Nat → Option Blk} {te : TI} {i : Int} {p : PV} : Det (ixS H te i p) := fun K h => by
  cases p <;> try (exact h.elim)
  case ro => exact ⟨_, ⟨h.1, h.2.1, h.2.2.1, rfl⟩, h.2.2.2⟩
  case sl id off m tot =>
    simp only [ixS] at h ⊢
    cases hb : H id with
    | none => rw [hb] at h; exact h.elim
    | some b =>
      rw [hb] at h
      exact ⟨_, ⟨h.1, h.2.1, h.2.2.1, h.2.2.2.1, rfl⟩, h.2.2.2.2⟩
  case asl id j m =>
    simp only [ixS] at h ⊢
    cases hb : H id with
    | none => rw [hb] at h; exact h.elim
    | some b =>
      rw [hb] at h
      exact ⟨_, ⟨h.1, h.2.1, h.2.2.1, rfl⟩, h.2.2.2⟩
theorem ixA_det {H : Nat → Option Blk} {m : Nat} {te : TI} {i : Int} {p : PV} : Det (ixA H m te i p) := fun K h => by
  cases p <;> try (exact h.elim)
  case ptr => exact ⟨_, ⟨h.1, h.2.1, h.2.2.1, rfl⟩, h.2.2.2⟩
  case rop => exact ⟨_, ⟨h.1, h.2.1, rfl⟩, h.2.2⟩
theorem oidx_det {ρ : TypeId → Operand → PV} {x : Option Operand} : Det (oidx ρ x) := fun K h => by
  cases x with
  | none => exact ⟨_, rfl, h⟩
  | some y =>
    obtain ⟨i, h1, h2⟩ := idx_det _ h
    exact ⟨some i, idx_mon _ _ (fun x hx => by rw [hx]) h1, h2⟩
theorem oidx_mon {ρ : TypeId → Operand → PV} {x : Option Operand} : Mon (oidx ρ x) := fun K K' hk h => by
  cases x with
  | none => exact hk _ h
  | some y => exact idx_mon _ _ (fun i hi => hk _ hi) h
theorem slP_det {H : Nat → Option Blk} {te : TI} {l h' : Option Int} {p : PV} : Det (slP H te l h' p) := fun K h => by
  cases p <;> try (exact h.elim)
  case ro => exact ⟨_, ⟨h.1, h.2.1, h.2.2.1, h.2.2.2.1, rfl⟩, h.2.2.2.2⟩
  case nil => exact ⟨_, ⟨h.1, h.2.1, rfl⟩, h.2.2⟩
  case sl id off m tot =>
    simp only [slP] at h ⊢
    cases hb : H id with
    | none => rw [hb] at h; exact h.elim
    | some b =>
      rw [hb] at h
      exact ⟨_, ⟨h.1, h.2.1, h.2.2.1, h.2.2.2.1, h.2.2.2.2.1, rfl⟩, h.2.2.2.2.2⟩
theorem slA_det {H : Nat → Option Blk} {m : Nat} {x : Int} {p : PV} : Det (slA H m x p) := fun K h => by
  cases p <;> try (exact h.elim)
  rename_i id i j tot
  simp only [slA] at h ⊢
  cases hb : H id with
  | none => rw [hb] at h; exact h.elim
  | some b => rw [hb] at h; exact ⟨_, ⟨h.1, h.2.1, h.2.2.1, h.2.2.2.1, h.2.2.2.2.1, h.2.2.2.2.2.1, rfl⟩, h.2.2.2.2.2.2⟩
theorem sl0_det {H : Nat → Option Blk} {p : PV} : Det (sl0 H p) := fun K h => by
  cases p <;> try (exact h.elim)
  case ro => exact ⟨_, rfl, h⟩
  case nil => exact ⟨_, rfl, h⟩
  case sl id off m tot =>
    simp only [sl0] at h ⊢
    cases hb : H id with
    | none => rw [hb] at h; exact h.elim
    | some b => rw [hb] at h; exact ⟨_, rfl, h⟩
theorem rdS_det {H : Nat → Option Blk} {p : PV} : Det (rdS H p) := fun K h => by
  cases p <;> try (exact h.elim)
  case ro => exact ⟨_, rfl, h⟩
  case nil => exact ⟨_, rfl, h⟩
  case sl id off m tot =>
    simp only [rdS] at h ⊢
    cases hb : H id with
    | none => rw [hb] at h; exact h.elim
    | some b => rw [hb] at h; exact ⟨_, ⟨h.1, rfl⟩, h.2⟩
theorem rdS_mon {H : Nat → Option Blk} {p : PV} : Mon (rdS H p) := fun K K' hk h => by
  cases p <;> try (exact h.elim)
  case ro => exact hk _ h
  case nil => exact hk _ h
  case sl id off m tot =>
    simp only [rdS] at h ⊢
    cases hb : H id with
    | none => rw [hb] at h; exact h.elim
    | some b => rw [hb] at h; exact ⟨h.1, hk _ h.2⟩
theorem stC_det {cs : Cells} {i j : Nat} {vs : List PV} : Det (stC cs i j vs) := fun K h => by
  unfold stC at h ⊢
  split at h
  · split at h
    · exact ⟨_, ⟨h.1, h.2.1, h.2.2.1, rfl⟩, h.2.2.2⟩
    · exact h.elim
  · exact ⟨_, ⟨h.1, h.2.1, h.2.2.1, h.2.2.2.1, rfl⟩, h.2.2.2.2⟩
  · exact h.elim
theorem stC_mon {cs : Cells} {i j : Nat} {vs : List PV} : Mon (stC cs i j vs) := fun K K' hk h => by
  unfold stC at h ⊢
  split at h
  · split at h
    · exact ⟨h.1, h.2.1, h.2.2.1, hk _ h.2.2.2⟩
    · exact h.elim
  · exact ⟨h.1, h.2.1, h.2.2.1, h.2.2.2.1, hk _ h.2.2.2.2⟩
  · exact h.elim
theorem apC_det {a b : Cells} : Det (apC a b) := fun K h => by
  unfold apC at h ⊢
  split at h
  · exact ⟨_, ⟨h.1, rfl⟩, h.2⟩
  · exact ⟨_, ⟨h.1, rfl⟩, h.2⟩
  · exact h.elim
theorem apC_mon {a b : Cells} : Mon (apC a b) := fun K K' hk h => by
  unfold apC at h ⊢
  split at h
  · exact ⟨h.1, hk _ h.2⟩
  · exact ⟨h.1, hk _ h.2⟩
  · exact h.elim
theorem fillP_det {pl : Nat → Option (Nat × Nat × TypeId)} {ρ : TypeId → Operand → PV} : ∀ (ps : List (Nat × Operand)) (cells : List PV), Det (fillP pl ρ cells ps)
  | [], cells => fun K h => ⟨_, rfl, h⟩
  | (i, x) :: r, cells => fun K h => by
    simp only [fillP] at h ⊢
    cases hp : pl i with
    | none => rw [hp] at h; exact h.elim
    | some q =>
      obtain ⟨off, size, t⟩ := q
      rw [hp] at h
      simp only at h ⊢
      cases hc : cellsOf (ρ t x) with
      | none => rw [hc] at h; exact h.elim
      | some vs =>
        rw [hc] at h
        obtain ⟨x, h1, h2⟩ := fillP_det r _ K h.2.2
        exact ⟨x, ⟨h.1, h.2.1, h1⟩, h2⟩
theorem fillP_mon {pl : Nat → Option (Nat × Nat × TypeId)} {ρ : TypeId → Operand → PV} : ∀ (ps : List (Nat × Operand)) (cells : List PV), Mon (fillP pl ρ cells ps)
  | [], cells => fun K K' hk h => hk _ h
  | (i, x) :: r, cells => fun K K' hk h => by
    simp only [fillP] at h ⊢
    cases hp : pl i with
    | none => rw [hp] at h; exact h.elim
    | some q =>
      obtain ⟨off, size, t⟩ := q
      rw [hp] at h
      simp only at h ⊢
      cases hc : cellsOf (ρ t x) with
      | none => rw [hc] at h; exact h.elim
      | some vs =>
        rw [hc] at h
        exact ⟨h.1, h.2.1, fillP_mon r _ K K' hk h.2.2⟩

def Det2 {α β : Type} (F : (α → β → Prop) → Prop) : Prop := ∀ K, F K → ∃ x y, F (fun x' y' => x' = x ∧ y' = y) ∧ K x y
def Mon2 {α β : Type} (F : (α → β → Prop) → Prop) : Prop := ∀ K K' : α → β → Prop, (∀ x y, K x y → K' x y) → F K → F K'
theorem mvL_det : ∀ (ps : List PV) (H : Nat → Option Blk), Det2 (mvL H ps)
  | [], H => fun K h => ⟨_, _, ⟨rfl, rfl⟩, h⟩
  | p :: ps, H => fun K h => by
    have go : ∀ {q : PV}, (mvL H ps fun ps e => K (q :: ps) e) → ∃ x y, (mvL H ps fun ps e => q :: ps = x ∧ e = y) ∧ K x y := fun {q} h => by
      obtain ⟨x, y, h1, h2⟩ := mvL_det ps H _ h
      refine ⟨q :: x, y, ?_, h2⟩
      have : (fun ps e => q :: ps = q :: x ∧ e = y) = fun (x' : List PV) (y' : Eff) => x' = x ∧ y' = y := by funext a b; simp
      rw [this]
      exact h1
    cases p <;> simp only [mvL] at h ⊢ <;> first | exact go h | skip
    case sl id off m tot =>
      obtain ⟨e1, e2, h⟩ := h
      cases hb : H id with
      | none => rw [hb] at h; exact h.elim
      | some b =>
        rw [hb] at h
        obtain ⟨x, y, h1, h2⟩ := mvL_det ps _ _ h.2
        refine ⟨.ro b.cs :: x, (id, none) :: y, ⟨e1, e2, h.1, ?_⟩, h2⟩
        have : (fun ps e => PV.ro b.cs :: ps = .ro b.cs :: x ∧ (id, none) :: e = (id, none) :: y) = fun (x' : List PV) (y' : Eff) => x' = x ∧ y' = y := by funext a b; simp
        rw [this]
        exact h1
    case fn f caps =>
      cases caps with
      | nil => simp only [mvL] at h ⊢; exact go h
      | cons q qs =>
        simp only [mvL] at h ⊢
        obtain ⟨x, y, h1, h2⟩ := go h.2
        exact ⟨x, y, ⟨h.1, h1⟩, h2⟩
theorem mvL_mon : ∀ (ps : List PV) (H : Nat → Option Blk), Mon2 (mvL H ps)
  | [], H => fun K K' hk h => hk _ _ h
  | p :: ps, H => fun K K' hk h => by
    cases p <;> simp only [mvL] at h ⊢ <;> first | exact mvL_mon ps H _ _ (fun x y hx => hk _ _ hx) h | skip
    case sl id off m tot =>
      obtain ⟨e1, e2, h⟩ := h
      cases hb : H id with
      | none => rw [hb] at h; exact h.elim
      | some b =>
        rw [hb] at h
        exact ⟨e1, e2, h.1, mvL_mon ps _ _ _ (fun x y hx => hk _ _ hx) h.2⟩
    case fn f caps =>
      cases caps with
      | nil => simp only [mvL] at h ⊢; exact mvL_mon ps H _ _ (fun x y hx => hk _ _ hx) h
      | cons q qs =>
        simp only [mvL] at h ⊢
        exact ⟨h.1, mvL_mon ps H _ _ (fun x y hx => hk _ _ hx) h.2⟩
theorem frz1_det {H : Nat → Option Blk} {p : PV} : Det2 (frz1 H p) := fun K h => by
  cases p <;> simp only [frz1] at h ⊢ <;> first | exact ⟨_, _, ⟨rfl, rfl⟩, h⟩ | skip
  case sl id off m tot =>
    cases hb : H id with
    | none => rw [hb] at h; exact h.elim
    | some b => rw [hb] at h; exact ⟨_, _, ⟨h.1, rfl, rfl⟩, h.2⟩
  case ptr id i j tot =>
    cases hb : H id with
    | none => rw [hb] at h; exact h.elim
    | some b => rw [hb] at h; exact ⟨_, _, ⟨h.1, h.2.1, rfl, rfl⟩, h.2.2⟩
  case fn f caps => cases caps <;> simp only [frz1] at h ⊢; exact ⟨_, _, ⟨rfl, rfl⟩, h⟩
theorem frz1_mon {H : Nat → Option Blk} {p : PV} : Mon2 (frz1 H p) := fun K K' hk h => by
  cases p <;> simp only [frz1] at h ⊢ <;> first | exact hk _ _ h | skip
  case sl id off m tot =>
    cases hb : H id with
    | none => rw [hb] at h; exact h.elim
    | some b => rw [hb] at h; exact ⟨h.1, hk _ _ h.2⟩
  case ptr id i j tot =>
    cases hb : H id with
    | none => rw [hb] at h; exact h.elim
    | some b => rw [hb] at h; exact ⟨h.1, h.2.1, hk _ _ h.2.2⟩
  case fn f caps => cases caps <;> simp only [frz1] at h ⊢; exact hk _ _ h
theorem Det2.bind2 {α β γ δ : Type} {F : (α → β → Prop) → Prop} {G : α → β → (γ → δ → Prop) → Prop} (hF : Det2 F) (mF : Mon2 F) (hG : ∀ x y, Det2 (G x y)) : Det2 fun K => F fun x y => G x y K := fun K h => by
  obtain ⟨x, y, h1, h2⟩ := hF _ h
  obtain ⟨u, v, h3, h4⟩ := hG x y K h2
  exact ⟨u, v, mF _ _ (fun a b hz => by obtain ⟨rfl, rfl⟩ := hz; exact h3) h1, h4⟩
theorem Mon2.bind2 {α β γ δ : Type} {F : (α → β → Prop) → Prop} {G : α → β → (γ → δ → Prop) → Prop} (mF : Mon2 F) (mG : ∀ x y, Mon2 (G x y)) : Mon2 fun K => F fun x y => G x y K := fun K K' hk h => mF _ _ (fun x y hx => mG x y K K' hk hx) h
theorem det2_map {α β γ δ : Type} {F : (α → β → Prop) → Prop} (f : α → γ) (g : β → δ) (hF : Det2 F) (mF : Mon2 F) : Det2 fun K => F fun x y => K (f x) (g y) := fun K h => by
  obtain ⟨x, y, h1, h2⟩ := hF _ h
  exact ⟨f x, g y, mF _ _ (fun a b hz => by obtain ⟨rfl, rfl⟩ := hz; exact ⟨rfl, rfl⟩) h1, h2⟩
theorem frzL_mon {H : Nat → Option Blk} : ∀ ps : List PV, Mon2 (frzL H ps)
  | [] => fun K K' hk h => hk _ _ h
  | p :: ps => fun K K' hk h => frz1_mon _ _ (fun x y hx => frzL_mon ps _ _ (fun a b hab => hk _ _ hab) hx) h
theorem frzL_det {H : Nat → Option Blk} : ∀ ps : List PV, Det2 (frzL H ps)
  | [] => fun K h => ⟨_, _, ⟨rfl, rfl⟩, h⟩
  | p :: ps => Det2.bind2 (G := fun p i K => frzL H ps fun ps is => K (p :: ps) (i ++ is)) frz1_det frz1_mon fun x y => det2_map (fun ps => x :: ps) (fun is => y ++ is) (frzL_det ps) (frzL_mon ps)
theorem frz_det {H : Nat → Option Blk} {p : PV} : Det2 (frz H p) := fun K h => by
  unfold frz at h ⊢
  split at h
  · exact det2_map (fun l => PV.agg l) (fun is => is) (frzL_det _) (frzL_mon _) K h
  · exact det2_map (fun l => PV.fn _ l) (fun is => is) (frzL_det _) (frzL_mon _) K h
  · exact frz1_det K h
theorem frz_mon {H : Nat → Option Blk} {p : PV} : Mon2 (frz H p) := fun K K' hk h => by
  unfold frz at h ⊢
  split at h
  · exact frzL_mon _ _ _ (fun x y hx => hk _ _ hx) h
  · exact frzL_mon _ _ _ (fun x y hx => hk _ _ hx) h
  · exact frz1_mon _ _ hk h
theorem frzA_mon {H : Nat → Option Blk} : ∀ ps : List PV, Mon2 (frzA H ps)
  | [] => fun K K' hk h => hk _ _ h
  | p :: ps => fun K K' hk h => frz_mon _ _ (fun x y hx => frzA_mon ps _ _ (fun a b hab => hk _ _ hab) hx) h
theorem frzA_det {H : Nat → Option Blk} : ∀ ps : List PV, Det2 (frzA H ps)
  | [] => fun K h => ⟨_, _, ⟨rfl, rfl⟩, h⟩
  | p :: ps => Det2.bind2 (G := fun p i K => frzA H ps fun ps is => K (p :: ps) (i ++ is)) frz_det frz_mon fun x y => det2_map (fun ps => x :: ps) (fun is => y ++ is) (frzA_det ps) (frzA_mon ps)
theorem mxF_det {mx : Bool} {k : IntKind} : ∀ (ps : List PV) (x : Int), Det (mxF mx k x ps)
  | [], x => fun K h => ⟨x, rfl, h⟩
  | p :: ps, x => fun K h => by
    cases p <;> try (exact h.elim)
    obtain ⟨rfl, h⟩ := h
    cases mx with
    | true =>
      obtain ⟨r, h1, h2⟩ := mxF_det ps _ K h
      exact ⟨r, ⟨rfl, h1⟩, h2⟩
    | false =>
      obtain ⟨r, h1, h2⟩ := mxF_det ps _ K h
      exact ⟨r, ⟨rfl, h1⟩, h2⟩
theorem mxF_mon {mx : Bool} {k : IntKind} : ∀ (ps : List PV) (x : Int), Mon (mxF mx k x ps)
  | [], x => fun K K' hk h => hk _ h
  | p :: ps, x => fun K K' hk h => by
    cases p <;> try (exact h.elim)
    obtain ⟨rfl, h⟩ := h
    cases mx with
    | true => exact ⟨rfl, mxF_mon ps _ K K' hk h⟩
    | false => exact ⟨rfl, mxF_mon ps _ K K' hk h⟩
theorem ops2_det {op : BinOp} {k : IntKind} {a b : Int} : Det (ops2 op k a b) := fun K h => by
  cases op <;> simp only [ops2] at h ⊢ <;> first | exact ⟨_, rfl, h⟩ | exact ⟨_, ⟨h.1, rfl⟩, h.2⟩
theorem sh2_det {op : BinOp} {k : IntKind} {a b : Int} : Det (sh2 op k a b) := fun K h => by
  cases op <;> simp only [sh2] at h ⊢ <;> exact ⟨_, ⟨h.1, rfl⟩, h.2⟩
theorem bin_det {T : Ty} {xt : TypeId} {op : BinOp} {x y : PV} : Det (bin T xt op x y) := fun K h => by
  unfold bin at h ⊢
  split at h
  · split at h
    · exact sh2_det K h
    · exact sh2_det K h
    · obtain ⟨v, h1, h2⟩ := ops2_det K h.2
      exact ⟨v, ⟨h.1, h1⟩, h2⟩
  · split at h
    · obtain ⟨hk, h⟩ := h
      split at h
      · exact ⟨_, ⟨hk, rfl⟩, h⟩
      · exact ⟨_, ⟨hk, rfl⟩, h⟩
      · exact h.elim
    · exact h.elim
  · split at h
    · exact ⟨_, rfl, h⟩
    · exact ⟨_, rfl, h⟩
    · exact ⟨_, ⟨h.1, rfl⟩, h.2⟩
    · exact h.elim
  · split at h
    · split at h
      · split at h
        · split at h
          · exact ⟨_, rfl, h⟩
          · exact ⟨_, rfl, h⟩
          · exact h.elim
        · exact h.elim
      · exact h.elim
    · exact h.elim
  · exact h.elim

theorem det_pure' {F : (PV → Prop) → Prop} (hF : Det F) (heq : ∀ v, F (fun y => y = v) = F (fun y => y = v ∧ ([] : Eff) = [])) : Det2 fun (K : PV → Eff → Prop) => F fun v => K v [] := fun K h => by
  obtain ⟨v, h1, h2⟩ := hF _ h
  exact ⟨v, [], by show F fun y => y = v ∧ ([] : Eff) = []; rw [← heq]; exact h1, h2⟩
theorem and_true_fun (v : PV) : (fun y : PV => y = v) = fun y => y = v ∧ ([] : Eff) = [] := by funext y; simp
theorem det_p {F : (PV → Prop) → Prop} (hF : Det F) : Det2 fun (K : PV → Eff → Prop) => F fun v => K v [] := det_pure' hF fun v => by rw [and_true_fun]

theorem det2_of {α : Type} {F : (α → Prop) → Prop} {f : α → PV} (hF : Det F) (mF : Mon F) : Det2 fun (K : PV → Eff → Prop) => F fun v => K (f v) [] := fun K h => by
  obtain ⟨v, h1, h2⟩ := hF _ h
  exact ⟨f v, [], mF _ _ (fun x (hx : x = v) => by subst hx; exact ⟨rfl, rfl⟩) h1, h2⟩

theorem apS_det {H : Nat → Option Blk} {n : Nat} {e : TypeId} {te : TI} {s x : PV} : Det2 (apS H n e te s x) := fun K h => by
  cases s <;> try (exact h.elim)
  case nil cs =>
    obtain ⟨c, h1, h2⟩ := rdS_det _ h
    exact ⟨_, _, rdS_mon _ _ (fun c' hc => by subst hc; exact ⟨h2.1, h2.2.1, h2.2.2.1, rfl, rfl⟩) h1, h2.2.2.2⟩
  case sl id off m tot =>
    obtain ⟨e1, e2, h⟩ := h
    simp only [apS]
    cases hb : H id with
    | none => rw [hb] at h; exact h.elim
    | some b =>
      rw [hb] at h
      obtain ⟨a1, a2, a3, a4, h⟩ := h
      obtain ⟨c, h1, h2⟩ := rdS_det _ h
      obtain ⟨d, h3, h4⟩ := apC_det _ h2.2.2
      exact ⟨_, _, ⟨e1, e2, a1, a2, a3, a4, rdS_mon _ _ (fun c' hc => by subst hc; exact ⟨h2.1, h2.2.1, apC_mon _ _ (fun d' hd => by subst hd; exact ⟨rfl, rfl⟩) h3⟩) h1⟩, h4⟩

theorem cpC_det {a b : Cells} {off m : Nat} {K : Nat → Cells → Prop} (h : cpC a b off m K) : ∃ k cs, cpC a b off m (fun k' cs' => k' = k ∧ cs' = cs) ∧ K k cs := by
  cases a <;> cases b <;> try (exact h.elim)
  exact ⟨_, _, ⟨h.1, rfl, rfl⟩, h.2⟩
theorem cpC_mon {a b : Cells} {off m : Nat} {K K' : Nat → Cells → Prop} (hk : ∀ k cs, K k cs → K' k cs) (h : cpC a b off m K) : cpC a b off m K' := by
  cases a <;> cases b <;> try (exact h.elim)
  exact ⟨h.1, hk _ _ h.2⟩
theorem cpS_det {H : Nat → Option Blk} {te : TI} {d s : PV} : Det2 (cpS H te d s) := fun K h => by
  cases d <;> try (exact h.elim)
  case sl id off m tot =>
    simp only [cpS] at h ⊢
    cases hb : H id with
    | none => rw [hb] at h; exact h.elim
    | some b =>
      rw [hb] at h
      obtain ⟨a1, a2, a3, a4, h⟩ := h
      obtain ⟨c, h1, h2⟩ := rdS_det _ h
      obtain ⟨k, cs, h3, h4⟩ := cpC_det h2
      exact ⟨_, _, ⟨a1, a2, a3, a4, rdS_mon _ _ (fun c' hc => by subst hc; exact cpC_mon (fun k' cs' hd => by obtain ⟨rfl, rfl⟩ := hd; exact ⟨rfl, rfl⟩) h3) h1⟩, h4⟩
theorem cpS_mon {H : Nat → Option Blk} {te : TI} {d s : PV} {K K' : PV → Eff → Prop} (hk : ∀ p e, K p e → K' p e) (h : cpS H te d s K) : cpS H te d s K' := by
  cases d <;> try (exact h.elim)
  case sl id off m tot =>
    simp only [cpS] at h ⊢
    cases hb : H id with
    | none => rw [hb] at h; exact h.elim
    | some b =>
      rw [hb] at h
      obtain ⟨a1, a2, a3, a4, h⟩ := h
      exact ⟨a1, a2, a3, a4, rdS_mon _ _ (fun c hc => cpC_mon (fun _ _ hd => hk _ _ hd) hc) h⟩
theorem bltn_det {ρ : TypeId → Operand → PV} {H : Nat → Option Blk} {n : Nat} {b : Builtin} {args : List Operand} {ts : List TypeId} : Det2 (bltn T ρ H n b args ts) := fun K h => by
  unfold bltn at h ⊢
  split at h
  · split at h
    · split at h <;> first | exact ⟨_, _, ⟨rfl, rfl⟩, h⟩ | exact h.elim
    · exact h.elim
  · split at h
    · exact det2_of (mxF_det _ _) (mxF_mon _ _) K h
    · exact h.elim
  · split at h
    · exact det2_of (mxF_det _ _) (mxF_mon _ _) K h
    · exact h.elim
  · obtain ⟨e1, h⟩ := h
    split at h
    · exact h.elim
    · split at h
      · split at h
        · exact h.elim
        · obtain ⟨x, y, h1, h2⟩ := apS_det K h.2
          exact ⟨x, y, ⟨e1, h.1, h1⟩, h2⟩
      · exact h.elim
  · split at h
    · exact h.elim
    · split at h
      · split at h
        · exact h.elim
        · exact cpS_det K h
      · exact h.elim
  · exact h.elim

theorem opv_det {o : Oper} {ρ : TypeId → Operand → PV} {H : Nat → Option Blk} {n : Nat} : Det2 (opv P T o ρ H n) := fun K h => by
  cases hop : o.op <;> simp only [opv, hop] at h ⊢ <;> try (exact h.elim)
  case move x => exact ⟨_, _, ⟨rfl, rfl⟩, h⟩
  case assign x => exact ⟨_, _, ⟨rfl, rfl⟩, h⟩
  case pick c x y =>
    split at h
    · rename_i t _
      cases t with
      | true => exact ⟨_, _, ⟨(fun _ => ⟨rfl, rfl⟩), (fun h => by cases h)⟩, h.1 rfl⟩
      | false => exact ⟨_, _, ⟨(fun h => by cases h), (fun _ => ⟨rfl, rfl⟩)⟩, h.2 rfl⟩
    · exact h.elim
  case alloc e =>
    split at h
    · split at h
      · exact ⟨_, _, ⟨h.1, rfl, rfl⟩, h.2⟩
      · exact ⟨_, _, ⟨h.1, rfl, rfl⟩, h.2⟩
    · exact h.elim
  case box e x =>
    split at h
    · exact ⟨_, _, ⟨h.1, rfl, rfl⟩, h.2⟩
    · exact h.elim
  case build t parts =>
    split at h
    · split at h
      · split at h
        · exact det2_of (fillP_det _ _) (fillP_mon _ _) K h
        · split at h
          · exact det2_of (fillP_det _ _) (fillP_mon _ _) K h
          · exact h.elim
        · exact h.elim
      · exact h.elim
    · exact h.elim
  case buildSlice t len parts =>
    split at h
    · split at h
      · split at h
        · obtain ⟨a1, a2, a3, h⟩ := h
          split at h
          · obtain ⟨c, h1, h2, h3⟩ := fillP_det _ _ _ h
            obtain ⟨x, y, h4, h5⟩ := mvL_det _ _ _ h3
            split at h5
            · rename_i cs hcs
              rcases h5 with h5 | h5
              · refine ⟨_, _, ⟨a1, a2, a3, fillP_mon _ _ _ _ (fun c' hc => by subst hc; exact ⟨h2, mvL_mon _ _ _ _ (fun x' y' hx => by obtain ⟨rfl, rfl⟩ := hx; rw [hcs]; exact .inl ⟨rfl, rfl⟩) h4⟩) h1⟩, h5⟩
              · refine ⟨_, _, ⟨a1, a2, a3, fillP_mon _ _ _ _ (fun c' hc => by subst hc; exact ⟨h2, mvL_mon _ _ _ _ (fun x' y' hx => by obtain ⟨rfl, rfl⟩ := hx; rw [hcs]; exact .inr ⟨rfl, rfl⟩) h4⟩) h1⟩, h5⟩
            · exact h5.elim
          · exact h.elim
        · exact h.elim
      · exact h.elim
    · exact h.elim
  case load t x =>
    split at h
    · exact det_p ldP_det K h
    · exact h.elim
  case store t x y =>
    split at h
    · split at h
      · split at h
        · rename_i b hb
          obtain ⟨a1, h⟩ := h
          split at h
          · obtain ⟨a2, a3, h1, h2⟩ := h
            rcases Bool.eq_false_or_eq_true b.box with hbox | hbox
            · obtain ⟨c, h3, h4⟩ := stC_det _ (h1 hbox)
              exact ⟨_, _, ⟨a1, a2, a3, (fun _ => stC_mon _ _ (fun c' hc => by subst hc; exact ⟨rfl, rfl⟩) h3), (fun h => by rw [hbox] at h; cases h)⟩, h4⟩
            · obtain ⟨x, y, h3, a4, h4⟩ := mvL_det _ _ _ (h2 hbox)
              obtain ⟨c, h5, h6⟩ := stC_det _ h4
              exact ⟨_, _, ⟨a1, a2, a3, (fun h => by rw [hbox] at h; cases h), fun _ => mvL_mon _ _ _ _ (fun x' y' hx => by obtain ⟨rfl, rfl⟩ := hx; exact ⟨a4, stC_mon _ _ (fun c' hc => by subst hc; exact ⟨rfl, rfl⟩) h5⟩) h3⟩, h6⟩
          · exact h.elim
        · exact h.elim
      · exact h.elim
    · exact h.elim
  case nilCheck x =>
    split at h <;> first | exact ⟨_, _, ⟨h.1, rfl, rfl⟩, h.2⟩ | exact ⟨_, _, ⟨rfl, rfl⟩, h⟩ | exact h.elim
  case binOp op t x y u => exact det_p bin_det K h
  case unOp op t x => split at h <;> first | exact ⟨_, _, ⟨rfl, rfl⟩, h⟩ | exact h.elim
  case convert s d x =>
    split at h
    · split at h
      · split at h
        · exact ⟨_, _, ⟨rfl, rfl⟩, h⟩
        · exact h.elim
      · split at h
        · split at h
          · obtain ⟨a1, h⟩ := h
            obtain ⟨c, h1, h2⟩ := rdS_det _ h
            split at h2
            · exact ⟨_, _, ⟨a1, rdS_mon _ _ (fun c' hc => by subst hc; exact ⟨rfl, rfl⟩) h1⟩, h2⟩
            · exact ⟨_, _, ⟨a1, rdS_mon _ _ (fun c' hc => by subst hc; exact ⟨rfl, rfl⟩) h1⟩, h2⟩
            · exact h2.elim
          · exact h.elim
        · exact h.elim
      · exact h.elim
    · exact h.elim
  case makeFunc fn first caps => split at h <;> first | exact ⟨_, _, ⟨h.1, rfl, rfl⟩, h.2⟩ | exact h.elim
  case makeSlice t l cp =>
    split at h
    · split at h
      · split at h
        · obtain ⟨i, h1, h2⟩ := idx_det _ h
          obtain ⟨j, h3, a1, a2, a3, a4, a5, h4⟩ := idx_det _ h2
          split at h4
          · obtain ⟨a6, h4⟩ := h4
            split at h4
            · obtain ⟨a7, h4⟩ := h4
              rcases h4 with h4 | h4
              · exact ⟨_, _, idx_mon _ _ (fun i' hi => by subst hi; exact idx_mon _ _ (fun j' hj => by subst hj; exact ⟨a1, a2, a3, a4, a5, a6, a7, .inl ⟨rfl, rfl⟩⟩) h3) h1, h4⟩
              · exact ⟨_, _, idx_mon _ _ (fun i' hi => by subst hi; exact idx_mon _ _ (fun j' hj => by subst hj; exact ⟨a1, a2, a3, a4, a5, a6, a7, .inr ⟨rfl, rfl⟩⟩) h3) h1, h4⟩
            · exact h4.elim
            · split at h4
              · rename_i hz
                rcases h4 with h4 | h4
                · exact ⟨_, _, idx_mon _ _ (fun i' hi => by subst hi; exact idx_mon _ _ (fun j' hj => by subst hj; refine ⟨a1, a2, a3, a4, a5, a6, ?_⟩; exact .inl ⟨rfl, rfl⟩) h3) h1, h4⟩
                · exact ⟨_, _, idx_mon _ _ (fun i' hi => by subst hi; exact idx_mon _ _ (fun j' hj => by subst hj; refine ⟨a1, a2, a3, a4, a5, a6, ?_⟩; exact .inr ⟨rfl, rfl⟩) h3) h1, h4⟩
              · exact h4.elim
          · exact h4.elim
        · exact h.elim
      · exact h.elim
    · exact h.elim
  case slice t x lo hi mx =>
    split at h
    · split at h
      · split at h
        · split at h
          · obtain ⟨a1, a2, a3, h⟩ := h
            obtain ⟨v, h1, h2⟩ := sl0_det _ h
            rw [and_true_fun] at h1
            exact ⟨_, _, ⟨a1, a2, a3, h1⟩, h2⟩
          · obtain ⟨l, h1, h2⟩ := oidx_det _ h
            obtain ⟨m, h3, h4⟩ := oidx_det _ h2
            obtain ⟨v, h5, h6⟩ := slP_det _ h4
            rw [and_true_fun] at h5
            exact ⟨_, _, oidx_mon _ _ (fun l' hl => by subst hl; exact oidx_mon _ _ (fun m' hm => by subst hm; exact h5) h3) h1, h6⟩
        · exact h.elim
      · obtain ⟨b1, b2, b3, h⟩ := h
        obtain ⟨m, h3, h4⟩ := oidx_det _ h
        obtain ⟨v, h5, h6⟩ := slA_det _ h4
        rw [and_true_fun] at h5
        exact ⟨_, _, ⟨b1, b2, b3, oidx_mon _ _ (fun m' hm => by subst hm; exact h5) h3⟩, h6⟩
      · exact h.elim
    · exact h.elim
  case fieldAddr t x f =>
    split at h
    · split at h
      · split at h
        · obtain ⟨v, h1, h2⟩ := fldP_det _ h.2
          rw [and_true_fun] at h1
          exact ⟨_, _, ⟨h.1, h1⟩, h2⟩
        · exact h.elim
      · exact h.elim
    · exact h.elim
  case indexAddr t x ix =>
    split at h
    · split at h
      · split at h
        · exact h.elim
        · obtain ⟨i, h1, h2⟩ := idx_det _ h
          obtain ⟨v, h3, h4⟩ := ixS_det _ h2
          rw [and_true_fun] at h3
          exact ⟨_, _, idx_mon _ _ (fun i' hi => by subst hi; exact h3) h1, h4⟩
      · split at h
        · exact h.elim
        · obtain ⟨i, h1, h2⟩ := idx_det _ h
          obtain ⟨v, h3, h4⟩ := ixA_det _ h2
          rw [and_true_fun] at h3
          exact ⟨_, _, idx_mon _ _ (fun i' hi => by subst hi; exact h3) h1, h4⟩
      · exact h.elim
    · exact h.elim
  case index t x ix =>
    split at h
    · split at h
      · split at h
        · obtain ⟨i, h1, h2⟩ := idx_det _ h
          split at h2
          · obtain ⟨a1, a2, h2⟩ := h2
            split at h2
            · rename_i ha
              exact ⟨_, _, idx_mon _ _ (fun i' hi => by subst hi; refine ⟨a1, a2, ?_⟩; rw [if_pos ha]; exact ⟨h2.1, rfl, rfl⟩) h1, h2.2⟩
            · rename_i ha
              obtain ⟨v, a3, h2⟩ := h2
              exact ⟨_, _, idx_mon _ _ (fun i' hi => by subst hi; refine ⟨a1, a2, ?_⟩; rw [if_neg ha]; exact ⟨v, a3, rfl, rfl⟩) h1, h2⟩
          · exact h2.elim
        · exact h.elim
      · exact h.elim
    · exact h.elim
  case extract x i =>
    split at h
    · split at h
      · exact ⟨_, _, ⟨rfl, rfl⟩, h⟩
      · exact h.elim
    · exact h.elim
  case call cl =>
    split at h
    · exact bltn_det K h
    · split at h
      · rcases h with h | ⟨Hr, r, e, k1, k2, k3, k4, k5⟩
        · obtain ⟨x, y, h1, r, h2, h3⟩ := frzA_det _ _ h
          split at h3
          · rename_i hs
            exact ⟨_, _, .inl <| frzA_mon _ _ _ (fun x' y' hx => by obtain ⟨rfl, rfl⟩ := hx; refine ⟨r, h2, ?_⟩; rw [if_pos hs]; exact ⟨rfl, rfl⟩) h1, h3⟩
          · rename_i hs
            exact ⟨_, _, .inl <| frzA_mon _ _ _ (fun x' y' hx => by obtain ⟨rfl, rfl⟩ := hx; refine ⟨r, h2, ?_⟩; rw [if_neg hs]; exact ⟨rfl, rfl⟩) h1, h3⟩
        · exact ⟨_, _, .inr ⟨Hr, r, e, k1, k2, k3, k4, rfl, rfl⟩, k5⟩
      · exact h.elim
    · exact h.elim
end Go.Pv

