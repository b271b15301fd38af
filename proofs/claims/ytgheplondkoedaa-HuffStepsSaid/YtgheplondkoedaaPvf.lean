import Derived.Test.YtgheplondkoedaaPve
namespace Go.Pv
set_option linter.unusedVariables false
set_option linter.unusedSimpArgs false
open Go Go.RowKit
variable {P : Program} {T : Ty} {o : Oper} {a : Act} {c : Cx} {B n : Nat} {tm : Nat → PV} {K : PV → Eff → Prop}

/-- A block is no more the call's own: it is read from now on. -/
theorem post_kill (hok : HeapOk c B) {id : Nat} {blk : Blk} (hH : c.H id = some blk) :
    ∃ c' : Cx, c'.w = c.w ∧ c'.loc = c.loc ∧ (∀ g, blkOf (c.loc id) = some g → ¬ c'.ow g) ∧ Post c c' B [(id, none)] ∧ ∀ b, c'.ow b → c.ow b := by
  let c' : Cx := { c with H := put c.H id none, ow := fun b => c.ow b ∧ blkOf (c.loc id) ≠ some b }
  have hle : c.Le c' := by
    refine ⟨fun b hb hlt => ⟨fun h => hb h.1, hlt, fun _ => rfl⟩, fun _ h => h, fun id' bk ha hb => ?_⟩
    have hb' : put c.H id none id' = some bk := hb
    by_cases hi : id = id'
    · subst hi; rw [put_same] at hb'; cases hb'
    · rw [put_ne _ _ hi] at hb'
      exact ⟨bk, hb', Nat.le_refl _, rfl, rfl, fun _ => rfl⟩
  have hof : ∀ id' bk, put c.H id none id' = some bk → id ≠ id' ∧ c.H id' = some bk := fun id' bk hb' => by
    by_cases hi : id = id'
    · subst hi; rw [put_same] at hb'; cases hb'
    · rw [put_ne _ _ hi] at hb'
      exact ⟨hi, hb'⟩
  have hlow : ∀ b, b < B → blkOf (c.loc id) ≠ some b := fun b hb e => by have := ((hok.ok id blk hH).2.lt e).1; omega
  refine ⟨c', rfl, rfl, fun g hg h => h.2 hg, ⟨hle, ⟨fun id' bk hb => ?_, fun id' bk g hb hgg => ?_, fun i1 i2 b1 b2 g h1 h2 g1 g2 => hok.inj i1 i2 b1 b2 g (hof i1 b1 h1).2 (hof i2 b2 h2).2 g1 g2, hok.base, fun b hb => hok.lt b hb.1⟩, rfl, fun id' => ?_, Below.refl B c.w, (fun b hb h => ⟨h, fun e => hlow b hb e⟩), fun b hb => ⟨⟨hb.1, fun id' bk hb' => hb.2 id' bk (hof id' bk hb').2⟩, rfl, fun h => ⟨h, hb.2 id blk hH⟩⟩⟩, fun b hb => hb.1⟩
  · obtain ⟨h1, h2⟩ := hof id' bk hb
    obtain ⟨h3, h4⟩ := hok.ok id' bk h2
    exact ⟨h3, h4.mono hle fun _ _ => rfl⟩
  · obtain ⟨h1, h2⟩ := hof id' bk hb
    exact ⟨hok.own id' bk g h2 hgg, fun e => h1 (hok.inj id id' blk bk g hH h2 e hgg)⟩
  · show c.A id' ↔ c.A id' ∨ id' ∈ [id]
    refine ⟨fun h => .inl h, fun h => h.elim (fun h => h) fun h => ?_⟩
    simp at h
    subst h
    exact (hok.ok id' blk hH).1

/-- A whole row of the call's own, seen as a slice to be read. -/
theorem ro_of_own (c' : Cx) (hw : c'.w = c.w) {e : TypeId} {cs : Cells} {V v : Value} {vs : List Value} (ho : c.w.ownsRow B e cs.w V cs.len vs) (hr : Reps c' true cs vs)
    (hv : v = V ∨ (V = .slice none 0 0 ∧ ∃ A, v = .slice A 0 0)) (hn : ∀ g, blkOf V = some g → ¬ c'.ow g) (q : Bool) : Rep c' q (.ro cs) v := by
  rcases ho.2 with ⟨rfl, h0⟩ | ⟨g, cap, cur, rfl, hB, hh, hnc, hcm, hcs, htake⟩
  · rcases hv with rfl | ⟨_, A, rfl⟩
    · exact .ro0 q cs none 0 h0
    · exact .ro0 q cs A 0 h0
  · rcases hv with rfl | ⟨h, _⟩
    · by_cases h0 : cs.len = 0
      · rw [h0]; exact .ro0 q cs _ _ h0
      · have hex : ∀ i j, ∃ u, i < cs.len → j < cs.w → vs[i * cs.w + j]? = some u ∧ Rep c' true (cs.get i j) u ∧ u.oneCell' = true := fun i j => by
          by_cases hi : i < cs.len
          · by_cases hj : j < cs.w
            · obtain ⟨u, h1⟩ := hr.2 i j hi hj
              exact ⟨u, fun _ _ => h1⟩
            · exact ⟨undef, fun _ h => absurd h hj⟩
          · exact ⟨undef, fun h => absurd h hi⟩
        refine .ro q cs g 0 cap (fun i j => Classical.choose (hex i j)) (by omega) hnc (hn g rfl) (by rw [hw]; exact (Array.getElem?_eq_some_iff.1 hh).1) (fun i j hi hj => ⟨?_, (Classical.choose_spec (hex i j) hi hj).2.2⟩) (fun i j hi hj => (Classical.choose_spec (hex i j) hi hj).2.1)
        rw [hw, Nat.zero_add]
        exact row_cells ho rfl _ _ (Classical.choose_spec (hex i j) hi hj).1
    · cases h

theorem nil_ro {q : Bool} {cs : Cells} {v : Value} (h : Rep c q (.nil cs) v) : Rep c q (.ro cs) v := by
  cases h
  exact .ro0 q cs _ 0 (by assumption)

/-- A value that is no place of the call's own. -/
theorem Rep.pure1 {q : Bool} {p : PV} {v : Value} (h : Rep c q p v) (hp : match p with | .sl .. | .ptr .. | .asl .. | .yld .. | .agg _ | .tup _ | .any | .opt .. => False | .fn _ (_ :: _) => False | _ => True) : Rep c true p v := by
  cases h with
  | any => exact hp.elim
  | bool => exact .bool ..
  | int => exact .int ..
  | str => exact .str ..
  | nilf => exact .nilf _
  | nil _ cs A h => exact .nil true cs A h
  | ro0 _ cs A cp h => exact .ro0 true cs A cp h
  | ro _ cs b off cp f h1 h2 h3 h4 h5 h6 => exact .ro true cs b off cp f h1 h2 h3 h4 h5 h6
  | rop _ cs i j b off f h1 h2 h3 h4 => exact .rop true cs i j b off f h1 h2 h3 h4
  | sl => exact hp.elim
  | ptr => exact hp.elim
  | asl => exact hp.elim
  | yld => exact hp.elim
  | fn _ f caps vs h1 h2 =>
    cases caps with
    | nil => exact .fn true f [] vs h1 (fun i q v h => by simp at h)
    | cons => exact hp.elim
  | agg => exact hp.elim
  | tup => exact hp.elim
  | opt => exact hp.elim

def RepL (c : Cx) (q : Bool) (ps : List PV) (us : List Value) : Prop := ps.length = us.length ∧ ∀ (i : Nat) p u, ps[i]? = some p → us[i]? = some u → Rep c q p u
theorem RepL.nil {q : Bool} : RepL c q [] [] := ⟨rfl, fun i p u h => by simp at h⟩
theorem RepL.cons {q : Bool} {p : PV} {u : Value} {ps : List PV} {us : List Value} (h : Rep c q p u) (hs : RepL c q ps us) : RepL c q (p :: ps) (u :: us) := by
  refine ⟨by simp [hs.1], fun i p' u' h1 h2 => ?_⟩
  cases i with
  | zero => simp at h1 h2; subst h1; subst h2; exact h
  | succ i => simp at h1 h2; exact hs.2 i p' u' h1 h2
theorem RepL.uncons {q : Bool} {p : PV} {ps : List PV} {us : List Value} (h : RepL c q (p :: ps) us) : ∃ u us', us = u :: us' ∧ Rep c q p u ∧ RepL c q ps us' := by
  cases us with
  | nil => have := h.1; simp at this
  | cons u us' => exact ⟨u, us', rfl, h.2 0 p u rfl rfl, by have := h.1; simpa using this, fun i p' u' h1 h2 => h.2 (i + 1) p' u' (by simpa using h1) (by simpa using h2)⟩
theorem RepL.mono {c' : Cx} (hle : c.Le c') {q : Bool} {ps : List PV} {us : List Value} (h : RepL c q ps us) : RepL c' q ps us := ⟨h.1, fun i p u h1 h2 => (h.2 i p u h1 h2).mono hle⟩

theorem Rep.pur0 {c : Cx} {q : Bool} {p : PV} {v : Value} (h : Rep c q p v) (hp : pur1 p = true) : Rep c true p v := by
  refine h.pure1 ?_
  cases p <;> first | trivial | (simp [pur1] at hp; done) | skip
  case fn f caps =>
    cases caps with
    | nil => trivial
    | cons => simp [pur1] at hp
theorem mvL_ok : ∀ (ps : List PV) (us : List Value) (c : Cx) (K : List PV → Eff → Prop), HeapOk c B → RepL c false ps us → mvL c.H ps K →
    ∃ ps' eff c', K ps' eff ∧ RepL c' true ps' us ∧ c'.w = c.w ∧ Post c c' B eff ∧ ∀ id, c'.A id → c.A id
  | [], us, c, K, hok, hr, h => by
    have : us = [] := by have := hr.1; simpa using this.symm
    subst this
    exact ⟨[], [], c, h, .nil, rfl, .refl hok, fun _ h => h⟩
  | p :: ps, us, c, K, hok, hr, h => by
    obtain ⟨u, us, rfl, hp, hr'⟩ := hr.uncons
    have simple : (∀ K', mvL c.H ps K' = mvL c.H ps K') → mvL c.H ps (fun ps e => K (p :: ps) e) → Rep c true p u → ∃ ps' eff c', K ps' eff ∧ RepL c' true ps' (u :: us) ∧ c'.w = c.w ∧ Post c c' B eff ∧ ∀ id, c'.A id → c.A id := fun _ h hp' => by
      obtain ⟨ps', eff, c', hK, hl, hw, hpost, hA⟩ := mvL_ok ps us c _ hok hr' h
      exact ⟨p :: ps', eff, c', hK, .cons (hp'.mono hpost.le) hl, hw, hpost, hA⟩
    cases p <;> simp only [mvL] at h
    case bool => exact simple (fun _ => rfl) h (hp.pure1 trivial)
    case int => exact simple (fun _ => rfl) h (hp.pure1 trivial)
    case str => exact simple (fun _ => rfl) h (hp.pure1 trivial)
    case nilf => exact simple (fun _ => rfl) h (hp.pure1 trivial)
    case ro => exact simple (fun _ => rfl) h (hp.pure1 trivial)
    case rop => exact simple (fun _ => rfl) h (hp.pure1 trivial)
    case fn f caps =>
      cases caps with
      | nil => exact simple (fun _ => rfl) h (hp.pure1 trivial)
      | cons q qs =>
        obtain ⟨hall, h⟩ := h
        refine simple (fun _ => rfl) h ?_
        cases hp with
        | fn _ _ _ vs h1 h2 => exact .fn true f (q :: qs) vs h1 fun i p v h3 h4 => (h2 i p v h3 h4).pur0 (List.all_eq_true.1 hall p (List.mem_of_getElem? h3))
    case nil cs =>
      obtain ⟨ps', eff, c', hK, hl, hw, hpost, hA⟩ := mvL_ok ps us c _ hok hr' h
      exact ⟨.ro cs :: ps', eff, c', hK, .cons ((nil_ro (hp.pure1 trivial)).mono hpost.le) hl, hw, hpost, hA⟩
    case sl id off m tot =>
      obtain ⟨rfl, rfl, h⟩ := h
      split at h
      · rename_i b hb
        obtain ⟨hlen, h⟩ := h
        obtain ⟨c1, hw1, hl1, hn1, hp1, _⟩ := post_kill hok hb
        have hH1 : c1.H = put c.H id none := hp1.H
        rw [← hH1] at h
        obtain ⟨ps', eff, c', hK, hl, hw, hpost, hA⟩ := mvL_ok ps us c1 _ hp1.heap (hr'.mono hp1.le) h
        have hro : Rep c1 true (.ro b.cs) u := by
          cases hp with
          | sl _ _ _ _ _ ha hs hk =>
            obtain ⟨hbox, _, hsl⟩ := hk b hb
            obtain ⟨_, hwh, _⟩ := hsl hlen
            have hv := hwh ⟨rfl, rfl⟩
            have hbk := (hok.ok id b hb).2
            unfold BlkOk at hbk
            rw [hbox] at hbk
            obtain ⟨vs, ho, hrr⟩ := hbk
            exact ro_of_own (B := B) (e := b.e) c1 hw1 ho (hrr.mono hp1.le) hv hn1 true
        exact ⟨.ro b.cs :: ps', (id, none) :: eff, c', hK, .cons (hro.mono hpost.le) hl, hw.trans hw1, hp1.trans hpost, fun i hi => ((hp1.A i).1 (hA i hi)).elim (fun h => h) (fun h => by simp at h; subst h; exact (hok.ok i b hb).1)⟩
      · exact h.elim

/-! ### What a callee may see -/
theorem sub_get (cs : Cells) (o n i j : Nat) (hi : i < n) : (cs.sub o n).get i j = cs.get (o + i) j := by
  cases cs with
  | lp L ps =>
    simp only [Cells.sub]
    split
    · rfl
    · simp only [Cells.get, List.getD_eq_getElem?_getD, List.getElem?_replicate, hi, if_true, Option.getD_some, List.getElem?_nil, Option.getD_none]
  | ints k xs => simp only [Cells.sub, Cells.get, List.getD_eq_getElem?_getD]; rw [List.getElem?_take_of_lt hi, List.getElem?_drop]
  | rows w rs => simp only [Cells.sub, Cells.get, List.getD_eq_getElem?_getD]; rw [List.getElem?_take_of_lt hi, List.getElem?_drop]
theorem sub_w (cs : Cells) (o n : Nat) : (cs.sub o n).w = cs.w := by
  cases cs with
  | lp L ps => simp only [Cells.sub]; split <;> rfl
  | _ => rfl
theorem sub_len (cs : Cells) (o n : Nat) (h : o + n ≤ cs.len) : (cs.sub o n).len = n := by
  cases cs with
  | lp L ps => simp only [Cells.sub]; split <;> simp [Cells.len] <;> omega
  | _ => simp [Cells.sub, Cells.len] at *; omega

/-- Cells of which each holds what is known of it: a slice over a part of them. -/
theorem ro_of_at (c : Cx) {cs : Cells} {b off cp : Nat} (hat : At c true cs b off) (hb : ¬ c.ow b) (hlt : b < c.w.heap.size) (q : Bool) (o n : Nat) (hn : o + n ≤ cs.len) (hcp : n ≤ cp) (h0 : 0 < n) :
    Rep c q (.ro (cs.sub o n)) (.slice (some ⟨b, off + o * cs.w, none⟩) n cp) := by
  have hl := sub_len cs o n hn
  have hex : ∀ i j, ∃ u, i < n → j < cs.w → c.w.cell? ⟨b, off + ((o + i) * cs.w + j), none⟩ = some u ∧ Rep c true (cs.get (o + i) j) u ∧ u.oneCell' = true := fun i j => by
    by_cases hi : i < n
    · by_cases hj : j < cs.w
      · obtain ⟨u, h1⟩ := hat (o + i) j (by omega) hj
        exact ⟨u, fun _ _ => h1⟩
      · exact ⟨undef, fun _ h => absurd h hj⟩
    · exact ⟨undef, fun h => absurd h hi⟩
  have key := Rep.ro (c := c) q (cs.sub o n) b (off + o * cs.w) cp (fun i j => Classical.choose (hex i j)) (by omega) (by omega) hb hlt (fun i j hi hj => ?_) (fun i j hi hj => ?_)
  · rw [hl] at key
    exact key
  · rw [sub_w] at hj ⊢
    rw [hl] at hi
    rw [show off + o * cs.w + (i * cs.w + j) = off + ((o + i) * cs.w + j) by rw [Nat.add_mul]; omega]
    exact ⟨(Classical.choose_spec (hex i j) hi hj).1, (Classical.choose_spec (hex i j) hi hj).2.2⟩
  · rw [sub_w] at hj
    rw [hl] at hi
    rw [sub_get cs o n i j hi]
    exact (Classical.choose_spec (hex i j) hi hj).2.1

theorem see_pure {c : Cx} {S : Nat → Prop} (hS : ∀ b, S b → c.ow b) {q : Bool} {p : PV} {v : Value} (hq : q = true) (h : Rep c q p v) : Rep (see S c.w) q p v :=
  @Rep.bare c (see S c.w) (fun b hb hlt => ⟨fun h => hb (hS b h), hlt, fun _ => rfl⟩) q hq p v h

theorem ptr_own (hok : HeapOk c B) {id i j tot : Nat} {v : Value} {b : Blk} (hr : Rep c false (.ptr id i j tot) v) (hb : c.H id = some b) (hl : b.cs.len = tot) :
    ∃ g, blkOf (c.loc id) = some g ∧ v = .pointer (some ⟨g, i * b.cs.w + j, none⟩) ∧ At c false b.cs g 0 := by
  cases hr with
  | ptr _ _ _ _ _ ha hs hk =>
    obtain ⟨g, hg, hv⟩ := (hk b hb).2 hl
    exact ⟨g, hg, hv, at_own hok hb hg⟩
theorem rop_mk {cs : Cells} {b off : Nat} (hat : At c true cs b off) (hb : ¬ c.ow b) (hlt : b < c.w.heap.size) (i0 j0 : Nat) (q : Bool) : Rep c q (.rop cs i0 j0) (.pointer (some ⟨b, off + (i0 * cs.w + j0), none⟩)) := by
  have hex : ∀ i j, ∃ u, i < cs.len → j < cs.w → c.w.cell? ⟨b, off + (i * cs.w + j), none⟩ = some u ∧ Rep c true (cs.get i j) u ∧ u.oneCell' = true := fun i j => by
    by_cases hi : i < cs.len
    · by_cases hj : j < cs.w
      · obtain ⟨u, h1⟩ := hat i j hi hj
        exact ⟨u, fun _ _ => h1⟩
      · exact ⟨undef, fun _ h => absurd h hj⟩
    · exact ⟨undef, fun h => absurd h hi⟩
  exact .rop q cs i0 j0 b off (fun i j => Classical.choose (hex i j)) hb hlt (fun i j hi hj => ⟨(Classical.choose_spec (hex i j) hi hj).1, (Classical.choose_spec (hex i j) hi hj).2.2⟩) (fun i j hi hj => (Classical.choose_spec (hex i j) hi hj).2.1)
theorem Rep.pur {q : Bool} {p : PV} {v : Value} (h : Rep c q p v) (hp : pur1 p = true) : Rep c true p v := by
  cases p <;> simp [pur1] at hp
  case fn f caps =>
    cases caps with
    | nil => exact h.pure1 trivial
    | cons => simp [pur1] at hp
  all_goals exact h.pure1 trivial
theorem pur_get {cs : Cells} (h : cs.pur = true) {i j : Nat} : pur1 (cs.get i j) = true ∨ cs.get i j = .any := by
  cases cs with
  | ints k xs => exact .inl rfl
  | lp L ps => exact .inr rfl
  | rows w rs =>
    simp only [Cells.get, List.getD_eq_getElem?_getD]
    cases hr : rs[i]? with
    | none => exact .inr rfl
    | some r =>
      have h1 := List.all_eq_true.1 (List.all_eq_true.1 h r (List.mem_of_getElem? hr))
      simp only [Option.getD_some]
      cases hc : r[j]? with
      | none => exact .inr rfl
      | some p => exact .inl (h1 p (List.mem_of_getElem? hc))
theorem frz1_ok (hok : HeapOk c B) {p : PV} {v : Value} {K : PV → List Nat → Prop} (hp : Rep c false p v) (h : frz1 c.H p K) :
    ∃ p' ids, K p' ids ∧ (∀ id ∈ ids, ∃ b, c.H id = some b) ∧ ∀ S : Nat → Prop, (∀ b, S b → c.ow b) → (∀ id ∈ ids, ∀ g, blkOf (c.loc id) = some g → ¬ S g) → Rep (see S c.w) true p' v := by
  have nop : ∀ id ∈ ([] : List Nat), ∃ b, c.H id = some b := fun id h => by simp at h
  cases p <;> simp only [frz1] at h
  case any => exact ⟨_, _, h, nop, fun S _ _ => .any ..⟩
  case fn f caps =>
    cases caps with
    | nil => exact ⟨_, _, h, nop, fun S hS _ => see_pure hS rfl (hp.pure1 trivial)⟩
    | cons => exact h.elim
  case nil cs => exact ⟨_, _, h, nop, fun S hS _ => see_pure hS rfl (nil_ro (hp.pure1 trivial))⟩
  case sl id off m tot =>
    split at h
    · rename_i b hb
      obtain ⟨hlen, h⟩ := h
      refine ⟨_, _, h, fun i hi => by simp at hi; subst hi; exact ⟨b, hb⟩, fun S hS hn => ?_⟩
      have hn := hn id (by simp)
      cases hp with
      | sl _ _ _ _ _ ha hs hk =>
        obtain ⟨hbox, _, hsl⟩ := hk b hb
        obtain ⟨hle, hwh, hpt⟩ := hsl hlen
        have hbk := (hok.ok id b hb).2
        unfold BlkOk at hbk
        rw [hbox] at hbk
        obtain ⟨vs, ho, hrr⟩ := hbk
        have hrr' : Reps (see S c.w) true b.cs vs := ⟨hrr.1, fun i j hi hj => by obtain ⟨u, h1, h2, h3⟩ := hrr.2 i j hi hj; exact ⟨u, h1, see_pure hS rfl h2, h3⟩⟩
        split
        · rename_i hw
          exact ro_of_own (B := B) (c := c) (e := b.e) (see S c.w) rfl ho hrr' (hwh hw) hn true
        · rename_i hw
          by_cases h0 : m = 0
          · subst h0
            obtain ⟨A, cp, rfl, _⟩ := hs
            exact .ro0 true _ A cp (sub_len b.cs off 0 (by omega))
          · rcases hpt hw with h | ⟨g, cp, hg, rfl⟩
            · exact absurd h h0
            · obtain ⟨A, cp', he, hcp⟩ := hs
              cases he
              have hat : At (see S c.w) true b.cs g 0 := hrr'.at_ (w := c.w) (row_cells ho hg)
              have := ro_of_at (see S c.w) hat (hn g hg) (by obtain ⟨_, h⟩ := (hok.ok id b hb).2.lt hg; exact h) true off m (by omega) hcp (by omega)
              rwa [Nat.zero_add] at this
    · exact h.elim
  case ptr id i j tot =>
    split at h
    · rename_i b hb
      obtain ⟨hlen, hpur, h⟩ := h
      refine ⟨_, _, h, fun i hi => by simp at hi; subst hi; exact ⟨b, hb⟩, fun S hS hn => ?_⟩
      have hn := hn id (by simp)
      obtain ⟨g, hg, rfl, hat⟩ := ptr_own hok hp hb hlen
      have hlt := ((hok.ok id b hb).2.lt hg).2
      have hat' : At (see S c.w) true b.cs g 0 := fun i j hi hj => by
        obtain ⟨v, h1, h2, h3⟩ := hat i j hi hj
        refine ⟨v, h1, see_pure hS rfl ?_, h3⟩
        rcases pur_get hpur (i := i) (j := j) with h4 | h4
        · exact h2.pur h4
        · rw [h4]; exact .any ..
      have := rop_mk hat' (hn g hg) hlt i j true
      rwa [Nat.zero_add] at this
    · exact h.elim
  all_goals exact ⟨_, _, h, nop, fun S hS _ => see_pure hS rfl (hp.pure1 trivial)⟩

theorem repL_of {q : Bool} {ps : List PV} {vs : Array Value} (h : ps.length = vs.size) (h' : ∀ (i : Nat) p v, ps[i]? = some p → vs[i]? = some v → Rep c q p v) : RepL c q ps vs.toList := ⟨by simpa using h, fun i p u h1 h2 => h' i p u h1 (by simpa using h2)⟩
theorem frzL_ok (hok : HeapOk c B) : ∀ (ps : List PV) (us : List Value) (K : List PV → List Nat → Prop), RepL c false ps us → frzL c.H ps K →
    ∃ ps' ids, K ps' ids ∧ (∀ id ∈ ids, ∃ b, c.H id = some b) ∧ ∀ S : Nat → Prop, (∀ b, S b → c.ow b) → (∀ id ∈ ids, ∀ g, blkOf (c.loc id) = some g → ¬ S g) → RepL (see S c.w) true ps' us
  | [], us, K, hr, h => by
    have : us = [] := by have := hr.1; simpa using this.symm
    subst this
    exact ⟨[], [], h, fun id h => by simp at h, fun _ _ _ => .nil⟩
  | p :: ps, us, K, hr, h => by
    obtain ⟨u, us, rfl, hp, hr'⟩ := hr.uncons
    obtain ⟨p', i1, h1, a1, h2⟩ := frz1_ok hok hp h
    obtain ⟨ps', i2, h3, a2, h4⟩ := frzL_ok hok ps us _ hr' h1
    exact ⟨p' :: ps', i1 ++ i2, h3, fun id h => (List.mem_append.1 h).elim (a1 id) (a2 id), fun S hS hn => .cons (h2 S hS fun id hi => hn id (List.mem_append_left _ hi)) (h4 S hS fun id hi => hn id (List.mem_append_right _ hi))⟩
theorem frz_ok (hok : HeapOk c B) {p : PV} {v : Value} {K : PV → List Nat → Prop} (hp : Rep c false p v) (h : frz c.H p K) :
    ∃ p' ids, K p' ids ∧ (∀ id ∈ ids, ∃ b, c.H id = some b) ∧ ∀ S : Nat → Prop, (∀ b, S b → c.ow b) → (∀ id ∈ ids, ∀ g, blkOf (c.loc id) = some g → ¬ S g) → Rep (see S c.w) true p' v := by
  unfold frz at h
  split at h
  · cases hp with
    | agg _ cs vs h1 h2 =>
      obtain ⟨ps', ids, h3, a1, h4⟩ := frzL_ok hok _ _ _ (repL_of h1 h2) h
      exact ⟨_, ids, h3, a1, fun S hS hn => let h5 := h4 S hS hn; .agg true _ _ (by simpa using h5.1) (fun i p u h6 h7 => h5.2 i p u h6 (by simpa using h7))⟩
  · cases hp with
    | fn _ f cs vs h1 h2 =>
      obtain ⟨ps', ids, h3, a1, h4⟩ := frzL_ok hok _ _ _ (repL_of h1 h2) h
      exact ⟨_, ids, h3, a1, fun S hS hn => let h5 := h4 S hS hn; .fn true _ _ _ (by simpa using h5.1) (fun i p u h6 h7 => h5.2 i p u h6 (by simpa using h7))⟩
  · exact frz1_ok hok hp h
theorem frzA_ok (hok : HeapOk c B) : ∀ (ps : List PV) (us : List Value) (K : List PV → List Nat → Prop), RepL c false ps us → frzA c.H ps K →
    ∃ ps' ids, K ps' ids ∧ (∀ id ∈ ids, ∃ b, c.H id = some b) ∧ ∀ S : Nat → Prop, (∀ b, S b → c.ow b) → (∀ id ∈ ids, ∀ g, blkOf (c.loc id) = some g → ¬ S g) → RepL (see S c.w) true ps' us
  | [], us, K, hr, h => by
    have : us = [] := by have := hr.1; simpa using this.symm
    subst this
    exact ⟨[], [], h, fun id h => by simp at h, fun _ _ _ => .nil⟩
  | p :: ps, us, K, hr, h => by
    obtain ⟨u, us, rfl, hp, hr'⟩ := hr.uncons
    obtain ⟨p', i1, h1, a1, h2⟩ := frz_ok hok hp h
    obtain ⟨ps', i2, h3, a2, h4⟩ := frzA_ok hok ps us _ hr' h1
    exact ⟨p' :: ps', i1 ++ i2, h3, fun id h => (List.mem_append.1 h).elim (a1 id) (a2 id), fun S hS hn => .cons (h2 S hS fun id hi => hn id (List.mem_append_left _ hi)) (h4 S hS fun id hi => hn id (List.mem_append_right _ hi))⟩

/-- Blocks that are given away. -/
def kills (ids : List Nat) : Eff := ids.map fun i => (i, none)
theorem kills_ok : ∀ (ids : List Nat) (c : Cx), HeapOk c B → (∀ id ∈ ids, c.A id) →
    ∃ c' : Cx, c'.w = c.w ∧ c'.loc = c.loc ∧ Post c c' B (kills ids) ∧ (∀ b, c'.ow b → c.ow b) ∧ ∀ id ∈ ids, ∀ blk g, c.H id = some blk → blkOf (c.loc id) = some g → ¬ c'.ow g
  | [], c, hok, _ => ⟨c, rfl, rfl, .refl hok, fun _ h => h, fun id h => by simp at h⟩
  | id :: ids, c, hok, ha => by
    have step : ∃ c1 : Cx, c1.w = c.w ∧ c1.loc = c.loc ∧ Post c c1 B [(id, none)] ∧ (∀ b, c1.ow b → c.ow b) ∧ ∀ blk g, c.H id = some blk → blkOf (c.loc id) = some g → ¬ c1.ow g := by
      cases hH : c.H id with
      | none =>
        refine ⟨c, rfl, rfl, ⟨.refl c, hok, ?_, fun id' => ?_, Below.refl _ _, fun _ _ h => h, fun b h => ⟨h, rfl, fun h => h⟩⟩, fun _ h => h, fun blk g h => by cases h⟩
        · funext j
          show c.H j = put c.H id none j
          rw [put_at]
          split
          · rename_i h; rw [← h]; exact hH
          · rfl
        · refine ⟨fun h => .inl h, fun h => h.elim (fun h => h) fun h => ?_⟩
          simp at h
          subst h
          exact ha id' (by simp)
      | some blk =>
        obtain ⟨c1, h1, h2, h3, h4, h5⟩ := post_kill hok hH
        exact ⟨c1, h1, h2, h4, h5, fun blk' g _ hg => h3 g hg⟩
    obtain ⟨c1, h1, h2, h3, h4, h5⟩ := step
    obtain ⟨c2, k1, k2, k3, k4, k5⟩ := kills_ok ids c1 h3.heap fun i hi => (h3.A i).2 (.inl (ha i (List.mem_cons_of_mem _ hi)))
    refine ⟨c2, k1.trans h1, k2.trans h2, h3.trans k3, fun b hb => h4 b (k4 b hb), fun i hi blk g hb hg => ?_⟩
    rcases List.mem_cons.1 hi with rfl | hi'
    · exact fun h => h5 blk g hb hg (k4 g h)
    · by_cases hid : id = i
      · subst hid
        exact fun h => h5 blk g hb hg (k4 g h)
      · refine k5 i hi' blk g ?_ (by rw [h2]; exact hg)
        rw [h3.H]
        show put c.H id none i = _
        rw [put_ne _ _ hid]
        exact hb
end Go.Pv
