import Derived.Test.YtmkgfgdipkagbaaWf
import Derived.Test.YtmkgfgdipkagbaaLtw
namespace Go.Proofs.Ytmkgfgdipkagbaa
set_option linter.unusedVariables false
set_option linter.unusedSimpArgs false
set_option maxRecDepth 10000
open Go Go.Pv
open Go.RowKit

/-! ### A channel's filters while their coefficients are copied -/
def FlD (d : Bool) (f : Fl) : List PV := [.int .i64 f.len, .int .i64 f.order, .bool f.down, .bool f.fine, .opt d (.old 3 (.ints .i64 f.co))]
def FlO (f : Fl) : List PV := [.int .i64 f.len, .int .i64 f.order, .bool f.down, .bool f.fine, .old 3 (.ints .i64 f.co)]
def rowD (w : List Fl) (D : Nat → Bool) : Cells := .rows 5 ((List.range w.length).map fun b => FlD (D b) (w[b]?.getD default))
def tnsC (tn : List (List Fl)) (D : Nat → Nat → Bool) : Cells := .rows 1 ((List.range tn.length).map fun a => [.old 35 (rowD (tn[a]?.getD []) (D a))])
theorem rowD_len (w : List Fl) (D : Nat → Bool) : (rowD w D).len = w.length := by simp [rowD, Cells.len]
theorem tnsC_len (tn : List (List Fl)) (D : Nat → Nat → Bool) : (tnsC tn D).len = tn.length := by simp [tnsC, Cells.len]
theorem rowD_get (w : List Fl) (D : Nat → Bool) {b j : Nat} (hb : b < w.length) : (rowD w D).get b j = ((FlD (D b) (w[b]?.getD default))[j]?).getD .any := by
  simp only [rowD, Cells.get, List.getD_eq_getElem?_getD]
  rw [List.getElem?_map, List.getElem?_range hb]
  rfl
theorem tnsC_get (tn : List (List Fl)) (D : Nat → Nat → Bool) {a : Nat} (ha : a < tn.length) : (tnsC tn D).get a 0 = .old 35 (rowD (tn[a]?.getD []) (D a)) := by
  simp only [tnsC, Cells.get, List.getD_eq_getElem?_getD]
  rw [List.getElem?_map, List.getElem?_range ha]
  rfl
theorem rowD_congr (w : List Fl) {D D' : Nat → Bool} (h : ∀ b, b < w.length → D b = D' b) : rowD w D = rowD w D' := by
  unfold rowD
  congr 1
  refine List.map_congr_left fun b hb => ?_
  rw [h b (List.mem_range.1 hb)]
theorem tnsC_congr (tn : List (List Fl)) {D D' : Nat → Nat → Bool} (h : ∀ a b, a < tn.length → b < (tn[a]?.getD []).length → D a b = D' a b) : tnsC tn D = tnsC tn D' := by
  unfold tnsC
  congr 1
  refine List.map_congr_left fun a ha => ?_
  rw [rowD_congr _ fun b hb => h a b (List.mem_range.1 ha) hb]
theorem sh_row (w : List Fl) (D : Nat → Bool) : Sh 35 3 (.old 35 (rowD w D)) := .te _ fun i j hi hj => by
  rw [rowD_len] at hi
  have hj : j < 5 := hj
  rw [rowD_get w D hi]
  match j, hj with
  | 0, _ => exact .inl ⟨_, _, rfl⟩
  | 1, _ => exact .inl ⟨_, _, rfl⟩
  | 2, _ => exact .inr (.inl ⟨_, rfl⟩)
  | 3, _ => exact .inr (.inl ⟨_, rfl⟩)
  | 4, _ => exact .inr (.inr ⟨_, _, _, rfl⟩)
theorem sh_tns (tn : List (List Fl)) (D : Nat → Nat → Bool) : Sh 35 3 (.old 33 (tnsC tn D)) := .old _ _ (by decide) fun i j hi hj => by
  rw [tnsC_len] at hi
  have hj : j < 1 := hj
  have : j = 0 := by omega
  subst this
  rw [tnsC_get tn D hi]
  exact sh_row _ _

variable {c : Cx} {tn : List (List Fl)} {V u : Value} {D : Nat → Nat → Bool}
theorem fl_row_get (w : List Fl) {b j : Nat} (hb : b < w.length) : (Cells.rows 5 (w.map Fl.row)).get b j = ((Fl.row (w[b]?.getD default))[j]?).getD .any := by
  simp only [Cells.get, List.getD_eq_getElem?_getD]
  rw [List.getElem?_map, List.getElem?_eq_getElem hb]
  rfl
theorem fl_old_get (w : List Fl) {b j : Nat} (hb : b < w.length) : (Cells.rows 5 (w.map FlO)).get b j = ((FlO (w[b]?.getD default))[j]?).getD .any := by
  simp only [Cells.get, List.getD_eq_getElem?_getD]
  rw [List.getElem?_map, List.getElem?_eq_getElem hb]
  rfl
theorem tns_start (h : Dm c.fz c.pk c.w (.old 33 (.rows 1 (tn.map fun w => [PV.old 35 (.rows 5 (w.map Fl.row))]))) V) : Dm c.fz c.pk c.w (.old 33 (tnsC tn fun _ _ => false)) V := by
  refine h.old_conv (by rw [tnsC_len]; simp [Cells.len]) rfl fun i j hi hj u hu => ?_
  have hi : i < tn.length := by simpa [Cells.len] using hi
  have hj : j < 1 := hj
  have : j = 0 := by omega
  subst this
  rw [get_map1 [] _ _ (fun w => .old 35 (.rows 5 (w.map Fl.row))) (fun _ => rfl) hi] at hu
  rw [tnsC_get tn _ hi]
  refine hu.old_conv (by rw [rowD_len]; simp [Cells.len]) rfl fun b k hb hk x hx => ?_
  have hb : b < (tn[i]?.getD []).length := by simpa [Cells.len] using hb
  have hk : k < 5 := hk
  rw [fl_row_get _ hb] at hx
  rw [rowD_get _ _ hb]
  match k, hk with
  | 0, _ => exact hx
  | 1, _ => exact hx
  | 2, _ => exact hx
  | 3, _ => exact hx
  | 4, _ => exact .optR _ _ _ hx
theorem tns_end (hD : ∀ a b, a < tn.length → b < (tn[a]?.getD []).length → D a b = true) (h : Dm c.fz c.pk c.w (.old 33 (tnsC tn D)) V) : Dm c.fz c.pk c.w (.old 33 (.rows 1 (tn.map fun w => [PV.old 35 (.rows 5 (w.map FlO))]))) V := by
  refine h.old_conv (by rw [tnsC_len]; simp [Cells.len]) rfl fun i j hi hj u hu => ?_
  rw [tnsC_len] at hi
  have hj : j < 1 := hj
  have : j = 0 := by omega
  subst this
  rw [get_map1 [] _ _ (fun w => .old 35 (.rows 5 (w.map FlO))) (fun _ => rfl) hi]
  rw [tnsC_get tn _ hi] at hu
  refine hu.old_conv (by rw [rowD_len]; simp [Cells.len]) rfl fun b k hb hk x hx => ?_
  rw [rowD_len] at hb
  have hk : k < 5 := hk
  rw [fl_old_get _ hb]
  rw [rowD_get _ _ hb] at hx
  match k, hk with
  | 0, _ => exact hx
  | 1, _ => exact hx
  | 2, _ => exact hx
  | 3, _ => exact hx
  | 4, _ =>
    have hx : Dm c.fz c.pk c.w (.opt (D i b) (.old 3 (.ints .i64 ((tn[i]?.getD [])[b]?.getD default).co))) x := hx
    rw [hD i b hi hb] at hx
    cases hx with
    | optO _ _ _ _ h => exact h
/-- What a row of the outer list is. -/
theorem tns_row {i : Nat} (h : Dm c.fz c.pk c.w (.old 33 (tnsC tn D)) V) (hi : i < tn.length) : ∃ g off cp u, V = .slice (some ⟨g, off, none⟩) tn.length cp ∧ (∃ arr, c.w.heap[g]? = some (.cells arr 33 (0, 0))) ∧ c.w.cell? ⟨g, off + i, none⟩ = some u ∧ Dm c.fz c.pk c.w (.old 35 (rowD (tn[i]?.getD []) (D i))) u := by
  have hl := tnsC_len tn D
  cases h with
  | old0 _ _ a cp e => omega
  | old _ _ b off cp arr f h0 hc hb hh hcell hr =>
    have h1 := (hcell i 0 (by omega) Nat.one_pos).1
    have h2 := hr i 0 (by omega) Nat.one_pos
    rw [tnsC_get tn D hi] at h2
    have hw : (tnsC tn D).w = 1 := rfl
    rw [hw, Nat.mul_one, Nat.add_zero] at h1
    refine ⟨b, off, cp, _, by rw [hl], ⟨arr, hh⟩, ?_, h2⟩
    simp [World.cell?, hh, h1]
theorem row_len {w : List Fl} {d : Nat → Bool} {v : Value} (h : Dm c.fz c.pk c.w (.old 35 (rowD w d)) v) : ∃ A cp, v = .slice A w.length cp := by
  have hl := rowD_len w d
  cases h with
  | old0 _ _ a cp e => exact ⟨a, cp, by rw [show w.length = 0 by omega]⟩
  | old _ _ b off cp => exact ⟨_, cp, by rw [hl]⟩
/-- What a filter's coefficients are. -/
theorem row_cell {w : List Fl} {d : Nat → Bool} {v : Value} {k : Nat} (h : Dm c.fz c.pk c.w (.old 35 (rowD w d)) v) (hk : k < w.length) : ∃ b o cp arr x, v = .slice (some ⟨b, o, none⟩) w.length cp ∧ c.pk b ∧ c.w.heap[b]? = some (.cells arr 35 (0, 0)) ∧ arr[o + (k * 5 + 4)]? = some x ∧ Dm c.fz c.pk c.w (.opt (d k) (.old 3 (.ints .i64 (w[k]?.getD default).co))) x := by
  have hl := rowD_len w d
  cases h with
  | old0 _ _ a cp e => omega
  | old _ _ b off cp arr f h0 hc hb hh hcell hr =>
    have h1 := (hcell k 4 (by omega) (show 4 < 5 by omega)).1
    have h2 := hr k 4 (by omega) (show 4 < 5 by omega)
    rw [rowD_get w d hk] at h2
    exact ⟨b, off, cp, arr, _, by rw [hl], hb, hh, h1, h2⟩
theorem row_better {w : List Fl} {d d' : Nat → Bool} {v x : Value} {k b o cp n : Nat} (h : Dm c.fz c.pk c.w (.old 35 (rowD w d)) v) (hv : v = .slice (some ⟨b, o, none⟩) n cp) (hx : c.w.cell? ⟨b, o + (k * 5 + 4), none⟩ = some x) (hd : Dm c.fz c.pk c.w (.old 3 (.ints .i64 (w[k]?.getD default).co)) x) (hd' : ∀ j, j ≠ k → d' j = d j) : Dm c.fz c.pk c.w (.old 35 (rowD w d')) v := by
  have hl := rowD_len w d
  have hl' := rowD_len w d'
  subst hv
  generalize hvv : Value.slice (some ⟨b, o, none⟩) n cp = vv at h
  cases h with
  | old0 _ _ a cp e => exact .old0 _ _ _ _ (by omega)
  | old _ _ b' off' cp' arr f h0 hc hb hh hcell hr =>
    injection hvv with e1 e2 e3
    injection e1 with e1
    injection e1 with e4 e5
    subst e4
    subst e5
    rw [show (rowD w d).len = (rowD w d').len by omega]
    refine .old 35 _ b o cp' arr f (by omega) (by omega) hb hh (fun i j hi hj => hcell i j (by omega) hj) fun i j hi hj => ?_
    have h1 := (hcell i j (by omega) hj).1
    have h2 := hr i j (by omega) hj
    rw [rowD_get _ _ (by omega)] at h2 ⊢
    have hj : j < 5 := hj
    match j, hj with
    | 0, _ => exact h2
    | 1, _ => exact h2
    | 2, _ => exact h2
    | 3, _ => exact h2
    | 4, _ =>
      by_cases hik : i = k
      · subst hik
        have h1 : arr[o + (i * 5 + 4)]? = some (f i 4) := h1
        have e : c.w.cell? ⟨b, o + (i * 5 + 4), none⟩ = some (f i 4) := by simp [World.cell?, hh, h1]
        rw [hx] at e
        cases e
        exact .optO _ _ _ _ hd
      · show Dm c.fz c.pk c.w (.opt (d' i) (.old 3 (.ints .i64 (w[i]?.getD default).co))) _
        rw [hd' i hik]
        exact h2
theorem tns_better {D' : Nat → Nat → Bool} {i g off cp n : Nat} (h : Dm c.fz c.pk c.w (.old 33 (tnsC tn D)) V) (hV : V = .slice (some ⟨g, off, none⟩) n cp) (hu : c.w.cell? ⟨g, off + i, none⟩ = some u) (hd : Dm c.fz c.pk c.w (.old 35 (rowD (tn[i]?.getD []) (D' i))) u) (hd' : ∀ j, j ≠ i → D' j = D j) : Dm c.fz c.pk c.w (.old 33 (tnsC tn D')) V := by
  have hl := tnsC_len tn D
  have hl' := tnsC_len tn D'
  subst hV
  generalize hvv : Value.slice (some ⟨g, off, none⟩) n cp = vv at h
  cases h with
  | old0 _ _ a cp e => exact .old0 _ _ _ _ (by omega)
  | old _ _ b' off' cp' arr f h0 hc hb hh hcell hr =>
    injection hvv with e1 e2 e3
    injection e1 with e1
    injection e1 with e4 e5
    subst e4
    subst e5
    rw [show (tnsC tn D).len = (tnsC tn D').len by omega]
    refine .old 33 _ g off cp' arr f (by omega) (by omega) hb hh (fun i j hi hj => hcell i j (by omega) hj) fun a j ha hj => ?_
    have hj : j < 1 := hj
    have : j = 0 := by omega
    subst this
    have h1 := (hcell a 0 (by omega) Nat.one_pos).1
    have h2 := hr a 0 (by omega) Nat.one_pos
    rw [tnsC_get _ _ (by omega)] at h2 ⊢
    have hw : (tnsC tn D).w = 1 := rfl
    rw [hw, Nat.mul_one, Nat.add_zero] at h1
    by_cases hai : a = i
    · subst hai
      have e : c.w.cell? ⟨g, off + a, none⟩ = some (f a 0) := by simp [World.cell?, hh, h1]
      rw [hu] at e
      cases e
      exact hd
    · rw [hd' a hai]
      exact h2
end Go.Proofs.Ytmkgfgdipkagbaa

