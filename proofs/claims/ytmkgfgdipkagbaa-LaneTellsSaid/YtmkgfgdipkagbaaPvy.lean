import Derived.Test.YtmkgfgdipkagbaaPvz
namespace Go.Pv
set_option linter.unusedVariables false
set_option linter.unusedSimpArgs false
open Go Go.RowKit
variable {P : Program}
/-! ### The numbers of new blocks may be changed -/
def ren1 (τ : Nat → Nat) : PV → PV
  | .sl id off n tot => .sl (τ id) off n tot
  | .ptr id i j tot => .ptr (τ id) i j tot
  | p => p
def leafR : PV → Bool
  | .sl .. | .ptr .. | .any => true
  | p => pur1 p
def ren2 (τ : Nat → Nat) : PV → PV
  | .agg l => .agg (l.map (ren1 τ))
  | p => ren1 τ p
def leaf2 : PV → Bool
  | .agg l => l.all leafR
  | p => leafR p
def renP (τ : Nat → Nat) : PV → PV
  | .tup l => .tup (l.map (ren2 τ))
  | p => ren2 τ p
def okR : PV → Bool
  | .tup l => l.all leaf2
  | p => leaf2 p
structure Ren (τ : Nat → Nat) (c c' : Cx) : Prop where
  w : c'.w = c.w
  ow : c'.ow = c.ow
  loc : ∀ id, c'.loc (τ id) = c.loc id
  A : ∀ id, c'.A (τ id) ↔ c.A id
  H : ∀ id, c'.H (τ id) = c.H id
theorem Ren.bare {τ : Nat → Nat} {c c' : Cx} (h : Ren τ c c') {p : PV} {v : Value} (r : Rep c true p v) : Rep c' true p v :=
  @Rep.bare c c' (fun b h1 h2 => by rw [h.w, h.ow]; exact ⟨h1, h2, fun _ => rfl⟩) true rfl _ _ r
theorem ren1_ok {τ : Nat → Nat} {c c' : Cx} (h : Ren τ c c') {p : PV} {v : Value} (hl : leafR p = true) (r : Rep c false p v) : Rep c' false (ren1 τ p) v := by
  cases p with
  | sl id off n tot =>
    cases r with
    | sl _ _ _ _ _ ha hs hk => exact .sl _ off n tot v ((h.A id).2 ha) hs fun blk hb => by rw [h.H] at hb; rw [h.loc]; exact hk blk hb
  | ptr id i j tot =>
    cases r with
    | ptr _ _ _ _ _ ha hs hk => exact .ptr _ i j tot v ((h.A id).2 ha) hs fun blk hb => by rw [h.H] at hb; rw [h.loc]; exact hk blk hb
  | any => exact .any ..
  | _ => exact (h.bare (r.pur hl)).loose
theorem repL_map {c c' : Cx} {f : PV → PV} {ok : PV → Bool} {vs : Array Value} (hf : ∀ p v, ok p = true → Rep c false p v → Rep c' false (f p) v) (l : List PV) (hl : l.all ok = true) (hr : ∀ (i : Nat) q v, l[i]? = some q → vs[i]? = some v → Rep c false q v) : ∀ (i : Nat) q v, (l.map f)[i]? = some q → vs[i]? = some v → Rep c' false q v := fun i q v h1 h2 => by
  rw [List.getElem?_map] at h1
  cases h : l[i]? with
  | none => rw [h] at h1; cases h1
  | some p =>
    rw [h] at h1
    cases h1
    exact hf p v (List.all_eq_true.1 hl p (List.mem_of_getElem? h)) (hr i p v h h2)
theorem ren2_ok {τ : Nat → Nat} {c c' : Cx} (h : Ren τ c c') {p : PV} {v : Value} (hl : leaf2 p = true) (r : Rep c false p v) : Rep c' false (ren2 τ p) v := by
  cases p with
  | agg l =>
    cases r with
    | agg _ _ vs h1 h2 => exact .agg _ _ vs (by rw [List.length_map]; exact h1) (repL_map (fun p v => ren1_ok h) l hl h2)
  | _ => (refine ren1_ok h ?_ r; exact hl)
theorem renP_ok {τ : Nat → Nat} {c c' : Cx} (h : Ren τ c c') {p : PV} {v : Value} (hl : okR p = true) (r : Rep c false p v) : Rep c' false (renP τ p) v := by
  cases p with
  | tup l =>
    cases r with
    | tup _ _ vs h1 h2 => exact .tup _ _ vs (by rw [List.length_map]; exact h1) (repL_map (fun p v => ren2_ok h) l hl h2)
  | _ => (refine ren2_ok h ?_ r; exact hl)
theorem on_ren {τ : Nat → Nat} (hi : ∀ id, τ (τ id) = id) : ∀ (e : Eff) (H : Nat → Option Blk) (id : Nat), Eff.on (e.map fun p => (τ p.1, p.2)) (fun i => H (τ i)) id = e.on H (τ id)
  | [], H, id => rfl
  | (i, b) :: e, H, id => by
    show Eff.on (e.map fun p => (τ p.1, p.2)) (put (fun i => H (τ i)) (τ i) b) id = Eff.on e (put H i b) (τ id)
    have : put (fun i => H (τ i)) (τ i) b = fun j => put H i b (τ j) := by
      funext j
      unfold put
      by_cases h : i = τ j
      · rw [if_pos h, if_pos (by rw [h, hi])]
      · rw [if_neg h, if_neg (fun h2 => h (by rw [← h2, hi]))]
    rw [this]
    exact on_ren hi e _ id
theorem hcall_ren {f : FuncId} {ps : List PV} {n : Nat} {r : PV} {e : Eff} (h : HCall P f ps [] n r e) (τ : Nat → Nat) (hi : ∀ id, τ (τ id) = id) (hlo : ∀ id, id < n → τ id = id) (hr : okR r = true) (he : ∀ p ∈ e, n ≤ p.1 ∧ ∀ b, p.2 = some b → b.box = false) :
    HCall P f ps [] n (renP τ r) (e.map fun p => (τ p.1, p.2)) := by
  refine ⟨h.1, fun c B vs hok hH hfresh ha => (h.2 c B vs hok hH hfresh ha).mono ?_⟩
  rintro en w' ⟨v, c', rfl, hw, hrep, hp⟩
  have hhi : ∀ id, n ≤ id → n ≤ τ id := fun id hid => by
    rcases Nat.lt_or_ge (τ id) n with h1 | h1
    · have := hlo _ h1
      rw [hi] at this
      omega
    · exact h1
  have hHn : c.H = fun _ => none := by rw [hH]; rfl
  have hcA : ∀ id, c.A (τ id) ↔ c.A id := fun id => by
    rcases Nat.lt_or_ge id n with h1 | h1
    · rw [hlo id h1]
    · exact ⟨fun h => absurd h (hfresh _ (hhi id h1)), fun h => absurd h (hfresh _ h1)⟩
  let c2 : Cx := { w := c'.w, loc := fun id => c'.loc (τ id), H := fun id => c'.H (τ id), A := fun id => c'.A (τ id), ow := c'.ow }
  have hren : Ren τ c' c2 := ⟨rfl, rfl, fun id => by show c'.loc (τ (τ id)) = _; rw [hi], fun id => by show c'.A (τ (τ id)) ↔ _; rw [hi], fun id => by show c'.H (τ (τ id)) = _; rw [hi]⟩
  have hbox : ∀ id blk, c'.H id = some blk → blk.box = false := fun id blk hb => by
    rw [hp.H, hHn] at hb
    rcases eff_mem hb with h1 | h1
    · obtain ⟨p, hpm, hpe⟩ := List.mem_map.1 h1
      have key : ∀ (e : Eff) (H0 : Nat → Option Blk), (∀ p ∈ e, ∀ b, p.2 = some b → b.box = false) → (∀ b, H0 id = some b → b.box = false) → ∀ b, Eff.on e H0 id = some b → b.box = false := by
        intro e
        induction e with
        | nil => intro H0 _ h2 b hb; exact h2 b hb
        | cons q e ih =>
          intro H0 h1 h2 b hb
          refine ih (put H0 q.1 q.2) (fun p hp => h1 p (by simp [hp])) (fun b hb => ?_) b hb
          rw [put_at] at hb
          split at hb
          · exact h1 q (by simp) b hb
          · exact h2 b hb
      exact key e _ (fun p hp => (he p hp).2) (fun b hb => by cases hb) blk hb
    · cases h1
  refine ⟨v, c2, rfl, hw, renP_ok hren hr hrep, ?_⟩
  refine ⟨⟨fun b h1 h2 => hp.le.stable b h1 h2, fun id h1 => ?_, fun id blk' h1 h2 => ?_⟩, ⟨fun id blk hb => ?_, fun id blk g h1 h2 => hp.heap.own (τ id) blk g h1 h2, fun i1 i2 b1 b2 g h1 h2 g1 g2 => ?_, hp.heap.base, hp.heap.lt⟩, ?_, fun id => ?_, hp.below, hp.ow, fun b hb => ?_⟩
  · show c'.A (τ id)
    have : id < n := Nat.lt_of_not_le fun h2 => hfresh id h2 h1
    rw [hlo id this]
    exact hp.le.all id h1
  · have hid : id < n := Nat.lt_of_not_le fun h3 => hfresh id h3 h1
    have h2' : c'.H (τ id) = some blk' := h2
    rw [hlo id hid] at h2'
    obtain ⟨blk, k1, k2, k3, k4, k5⟩ := hp.le.ids id blk' h1 h2'
    refine ⟨blk, k1, k2, k3, k4, fun h => ?_⟩
    show c'.loc (τ id) = c.loc id
    rw [hlo id hid]
    exact k5 h
  · have hb' : c'.H (τ id) = some blk := hb
    obtain ⟨k1, k2⟩ := hp.heap.ok (τ id) blk hb'
    refine ⟨k1, ?_⟩
    unfold BlkOk at k2 ⊢
    rw [hbox _ _ hb'] at k2 ⊢
    obtain ⟨us, e1, e2⟩ := k2
    exact ⟨us, e1, e2.1, fun i j h1 h2 => let ⟨u, a, b, d⟩ := e2.2 i j h1 h2; ⟨u, a, hren.bare b, d⟩⟩
  · have := hp.heap.inj (τ i1) (τ i2) b1 b2 g h1 h2 g1 g2
    rw [← hi i1, this, hi]
  · funext id
    show c'.H (τ id) = _
    rw [hp.H, hHn]
    exact (on_ren hi e (fun _ => none) id).symm
  · show c'.A (τ id) ↔ _
    rw [hp.A, hcA]
    refine ⟨fun h => h.imp_right fun h => ?_, fun h => h.imp_right fun h => ?_⟩
    · obtain ⟨p, h1, h2⟩ := List.mem_map.1 h
      exact List.mem_map.2 ⟨(τ p.1, p.2), List.mem_map.2 ⟨p, h1, rfl⟩, by show τ p.1 = id; rw [h2, hi]⟩
    · obtain ⟨p, h1, h2⟩ := List.mem_map.1 h
      obtain ⟨q, h3, rfl⟩ := List.mem_map.1 h1
      exact List.mem_map.2 ⟨q, h3, by rw [← h2]; exact (hi q.1).symm⟩
  · obtain ⟨k1, k2, k3⟩ := hp.only b hb
    exact ⟨⟨k1.1, fun id blk h1 => k1.2 (τ id) blk h1⟩, k2, k3⟩
def tr : List (Nat × Nat) → Nat → Nat
  | [], id => id
  | (a, b) :: r, id => if id = a then b else if id = b then a else tr r id
def trF (l : List (Nat × Nat)) : List Nat := l.flatMap fun p => [p.1, p.2]
theorem tr_mem : ∀ (l : List (Nat × Nat)) (id : Nat), tr l id = id ∨ tr l id ∈ trF l
  | [], id => .inl rfl
  | (a, b) :: r, id => by
    unfold tr
    split
    · right; simp [trF]
    · split
      · right; simp [trF]
      · rcases tr_mem r id with h | h
        · exact .inl h
        · right
          simp only [trF, List.flatMap_cons, List.mem_append]
          exact .inr h
theorem tr_inv : ∀ {l : List (Nat × Nat)} (_ : (trF l).Nodup) (id : Nat), tr l (tr l id) = id
  | [], _, id => rfl
  | (a, b) :: r, h, id => by
    simp only [trF, List.flatMap_cons, List.cons_append, List.nil_append, List.nodup_cons, List.mem_cons, not_or] at h
    obtain ⟨⟨hab, ha⟩, hb, hr⟩ := h
    by_cases h1 : id = a
    · subst h1
      have : tr ((id, b) :: r) id = b := by unfold tr; rw [if_pos rfl]
      rw [this]
      unfold tr
      rw [if_neg (Ne.symm hab), if_pos rfl]
    · by_cases h2 : id = b
      · subst h2
        have : tr ((a, id) :: r) id = a := by unfold tr; rw [if_neg h1, if_pos rfl]
        rw [this]
        unfold tr
        rw [if_pos rfl]
      · have : tr ((a, b) :: r) id = tr r id := by show (if id = a then b else if id = b then a else tr r id) = _; rw [if_neg h1, if_neg h2]
        rw [this]
        have h3 : ¬ tr r id = a := by
          rcases tr_mem r id with h | h
          · rwa [h]
          · intro he; rw [he] at h; exact ha h
        have h4 : ¬ tr r id = b := by
          rcases tr_mem r id with h | h
          · rwa [h]
          · intro he; rw [he] at h; exact hb h
        show (if tr r id = a then b else if tr r id = b then a else tr r (tr r id)) = id
        rw [if_neg h3, if_neg h4]
        exact tr_inv hr id
theorem tr_lo : ∀ {l : List (Nat × Nat)} {n : Nat} (_ : (trF l).all (fun x => decide (n ≤ x)) = true) (id : Nat), id < n → tr l id = id
  | [], _, _, id, _ => rfl
  | (a, b) :: r, n, h, id, hid => by
    simp only [trF, List.flatMap_cons, List.cons_append, List.nil_append, List.all_cons, Bool.and_eq_true, decide_eq_true_eq] at h
    show (if id = a then b else if id = b then a else tr r id) = id
    rw [if_neg (by omega), if_neg (by omega)]
    exact tr_lo h.2.2 id hid
theorem hcall_tr {f : FuncId} {ps : List PV} {n : Nat} {r : PV} {e : Eff} (h : HCall P f ps [] n r e) (l : List (Nat × Nat)) (hn : (trF l).Nodup) (hlo : (trF l).all (fun x => decide (n ≤ x)) = true) (hr : okR r = true) (he : ∀ p ∈ e, n ≤ p.1 ∧ ∀ b, p.2 = some b → b.box = false) :
    HCall P f ps [] n (renP (tr l) r) (e.map fun p => (tr l p.1, p.2)) := hcall_ren h (tr l) (tr_inv hn) (tr_lo hlo) hr he
end Go.Pv
