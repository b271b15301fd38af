import Derived.Test.YtmkgfgdipkagbaaWf
import Derived.Test.YtmkgfgdipkagbaaTyl
import Derived.Test.YtmkgfgdipkagbaaLlan13
import Derived.Test.YtmkgfgdipkagbaaLinfo
namespace Go.Proofs.Ytmkgfgdipkagbaa
set_option linter.unusedVariables false
set_option linter.unusedSimpArgs false
set_option maxRecDepth 10000
open Go Go.Pv
open Go.RowKit

theorem get_map1 {α : Type} (d : α) (f : α → List PV) (l : List α) (g : α → PV) (hf : ∀ x, f x = [g x]) {k : Nat} (hk : k < l.length) : (Cells.rows 1 (l.map f)).get k 0 = g (l[k]?.getD d) := by
  simp only [Cells.get, List.getD_eq_getElem?_getD]
  rw [List.getElem?_map, List.getElem?_eq_getElem hk]
  simp [hf]
theorem dat_row (w : List Sc) : ∀ i j, i < (Cells.rows 2 (w.map Sc.row)).len → j < (Cells.rows 2 (w.map Sc.row)).w → Dat ((Cells.rows 2 (w.map Sc.row)).get i j) := fun i j hi hj => by
  have hi : i < w.length := by simpa [Cells.len] using hi
  have hj : j < 2 := hj
  simp only [Cells.get, List.getD_eq_getElem?_getD, List.getElem?_map, List.getElem?_eq_getElem hi]
  match j, hj with
  | 0, _ => exact Dat.int _ _
  | 1, _ => exact Dat.int _ _
theorem und_row (w : List Sc) : ∀ i j, i < (Cells.rows 2 (w.map Sc.row)).len → j < (Cells.rows 2 (w.map Sc.row)).w → Und ((Cells.rows 2 (w.map Sc.row)).get i j) := fun i j hi hj => by
  have hi : i < w.length := by simpa [Cells.len] using hi
  have hj : j < 2 := hj
  simp only [Cells.get, List.getD_eq_getElem?_getD, List.getElem?_map, List.getElem?_eq_getElem hi]
  match j, hj with
  | 0, _ => exact Und.int _ _
  | 1, _ => exact Und.int _ _
theorem not_row (Te : TypeId) (w : List Sc) : ∀ i j, i < (Cells.rows 2 (w.map Sc.row)).len → j < (Cells.rows 2 (w.map Sc.row)).w → NoT Te ((Cells.rows 2 (w.map Sc.row)).get i j) := fun i j hi hj => by
  have hi : i < w.length := by simpa [Cells.len] using hi
  have hj : j < 2 := hj
  simp only [Cells.get, List.getD_eq_getElem?_getD, List.getElem?_map, List.getElem?_eq_getElem hi]
  match j, hj with
  | 0, _ => exact .int ..
  | 1, _ => exact .int ..
theorem dat_ints (w : List Int) : ∀ i j, i < (Cells.ints .i64 w).len → j < (Cells.ints .i64 w).w → Dat ((Cells.ints .i64 w).get i j) := fun i j _ _ => Dat.int _ _
theorem und_ints (w : List Int) : ∀ i j, i < (Cells.ints .i64 w).len → j < (Cells.ints .i64 w).w → Und ((Cells.ints .i64 w).get i j) := fun i j _ _ => Und.int _ _
theorem not_ints (Te : TypeId) (w : List Int) : ∀ i j, i < (Cells.ints .i64 w).len → j < (Cells.ints .i64 w).w → NoT Te ((Cells.ints .i64 w).get i j) := fun i j _ _ => NoT.int _ _
theorem dat_fl (w : List Fl) : ∀ i j, i < (Cells.rows 5 (w.map Fl.row)).len → j < (Cells.rows 5 (w.map Fl.row)).w → Dat ((Cells.rows 5 (w.map Fl.row)).get i j) := fun i j hi hj => by
  have hi : i < w.length := by simpa [Cells.len] using hi
  have hj : j < 5 := hj
  simp only [Cells.get, List.getD_eq_getElem?_getD, List.getElem?_map, List.getElem?_eq_getElem hi]
  match j, hj with
  | 0, _ => exact Dat.int _ _
  | 1, _ => exact Dat.int _ _
  | 2, _ => exact Dat.bool _
  | 3, _ => exact Dat.bool _
  | 4, _ => exact Dat.ro (dat_ints _)
theorem und_fl (w : List Fl) : ∀ i j, i < (Cells.rows 5 (w.map Fl.row)).len → j < (Cells.rows 5 (w.map Fl.row)).w → Und ((Cells.rows 5 (w.map Fl.row)).get i j) := fun i j hi hj => by
  have hi : i < w.length := by simpa [Cells.len] using hi
  have hj : j < 5 := hj
  simp only [Cells.get, List.getD_eq_getElem?_getD, List.getElem?_map, List.getElem?_eq_getElem hi]
  match j, hj with
  | 0, _ => exact Und.int _ _
  | 1, _ => exact Und.int _ _
  | 2, _ => exact Und.bool _
  | 3, _ => exact Und.bool _
  | 4, _ => exact Und.ro (und_ints _)
theorem not_fl (Te : TypeId) (w : List Fl) : ∀ i j, i < (Cells.rows 5 (w.map Fl.row)).len → j < (Cells.rows 5 (w.map Fl.row)).w → NoT Te ((Cells.rows 5 (w.map Fl.row)).get i j) := fun i j hi hj => by
  have hi : i < w.length := by simpa [Cells.len] using hi
  have hj : j < 5 := hj
  simp only [Cells.get, List.getD_eq_getElem?_getD, List.getElem?_map, List.getElem?_eq_getElem hi]
  match j, hj with
  | 0, _ => exact NoT.int _ _
  | 1, _ => exact NoT.int _ _
  | 2, _ => exact NoT.bool _
  | 3, _ => exact NoT.bool _
  | 4, _ => exact NoT.ro _ (not_ints _ _)
theorem dat_map1 {α : Type} (d : α) (f : α → List PV) (g : α → PV) (hf : ∀ x, f x = [g x]) (l : List α) (hg : ∀ x, Dat (g x)) : ∀ i j, i < (Cells.rows 1 (l.map f)).len → j < (Cells.rows 1 (l.map f)).w → Dat ((Cells.rows 1 (l.map f)).get i j) := fun i j hi hj => by
  have hi : i < l.length := by simpa [Cells.len] using hi
  have hj : j < 1 := hj
  have : j = 0 := by omega
  subst this
  rw [get_map1 d f l g hf hi]
  exact hg _

attribute [local simp] xruns xop evX lkV xput List.lookup
set_option maxHeartbeats 4000000 in
theorem twins_s (se : List (List Sc)) (hs : se.length ≤ 1000000) (hw : ∀ w ∈ se, w.length ≤ 1000000) : FCall Try.prog 36 (.ro (.rows 1 (se.map fun w => [PV.ro (.rows 2 ((w).map Sc.row))]))) 36 (.rows 1 (se.map fun w => [PV.old 38 (.rows 2 ((w).map Sc.row))])) := by
  refine ⟨⟨_, Try.func36, by rfl, by rfl⟩, fun c0 v0 hH0 hpk0 hlt0 hr0 => ?_⟩
  have C1 : FCall Try.prog 82 (.ro (.rows 1 (se.map fun w => [PV.ro (.rows 2 ((w).map Sc.row))]))) 36 (.rows 1 (se.map fun w => [PV.ro (.rows 2 ((w).map Sc.row))])) :=
    fcall_of_own (clone_ss 0 _ (by simpa using hs)) rfl (dat_map1 [] _ _ (fun _ => rfl) se fun w => .ro (dat_row w))
  refine calls_of_wp Try.func36 (by rfl) ?_
  generalize hQ : bodyPost Try.prog Try.f36 _ = Q
  have ha0 : XA 21 [] [(0, v0)] { tmps := #[v0] ++ Array.replicate (Try.f36.ntmps - 1) undef, defers := [] } := ⟨by simp [Try.f36], rfl, fun t v h => by
    unfold lkV at h
    split at h
    · cases h; subst_vars; simp
    · cases h⟩
  revert ha0
  generalize ({ tmps := #[v0] ++ Array.replicate (Try.f36.ntmps - 1) undef, defers := [] } : Act) = a0
  intro ha0
  refine wp_seq (xregion ty_ok ha0 ?_)
  simp
  intro a1 ha1
  refine wp_seq (xregion ty_ok ha1 ?_)
  simp
  refine ⟨C1.1, (C1.2 c0 v0 hH0 hpk0 hlt0 hr0).mono ?_⟩
  rintro en w' ⟨V, c1, rfl, rfl, hd1, hp1⟩
  refine ⟨V, rfl, fun a2 ha2 => ?_⟩
  have hJ0 : TwJ c0 V 36 38 se.length (fun k => (.rows 2 ((se[k]?.getD []).map Sc.row))) 0 c1 := tw_start hpk0 hH0 hp1 hd1 (by simp [Cells.len]) rfl (fun k hk => get_map1 [] _ _ (fun w => .ro (.rows 2 ((w).map Sc.row))) (fun _ => rfl) hk) (fun k hk => .ro (und_row _))
  clear hd1 hp1 ha0 ha1
  have hV : ∃ A cp, V = .slice A se.length cp := by
    rcases hJ0.V with ⟨h0, A, cp, rfl⟩ | ⟨g, off, cp, arr, rfl, _⟩
    · exact ⟨A, cp, by rw [h0]⟩
    · exact ⟨_, _, rfl⟩
  obtain ⟨A, cp, rfl⟩ := hV
  refine wp_seq (wp_seq (xregion ty_ok ha2 ?_))
  simp
  intro a3 ha3
  refine wp_block ?_
  have ha3 := ha3.sub (l' := [(0, .slice A se.length cp), (7, .int .i64 (se.length : Nat)), (8, .int .i64 0)]) (by simp [lkV])
  obtain ⟨I, hI⟩ : ∃ I : Nat → Act → World → Prop, I = (fun m a w => ∃ (i : Nat) (c : Cx), i ≤ se.length ∧ m = se.length - i ∧ c.w = w ∧ XA 21 [] [(0, .slice A se.length cp), (7, .int .i64 (se.length : Nat)), (8, .int .i64 (i : Nat))] a ∧ TwJ c0 (.slice A se.length cp) 36 38 se.length (fun k => (.rows 2 ((se[k]?.getD []).map Sc.row))) i c) := ⟨_, rfl⟩
  refine wp_loop_ghost I se.length (by rw [hI]; exact ⟨0, c1, by omega, by omega, rfl, ha3, hJ0⟩) ?_
  intro m a w hm
  rw [hI] at hm
  revert hm
  rintro ⟨i, c, hi, rfl, rfl, ha, hJ⟩
  refine wp_seq (xregion ty_ok ha ?_)
  simp
  intro a4 ha4
  refine wp_seq (wp_cond_split (t := decide ((i : Int) < (se.length : Nat))) (ha4.v 9 _ (by simp [lkV])) (fun ht => ?_) (fun hf => ?_))
  · refine wp_skip ?_
    have hlt : i < se.length := by simpa using ht
    show Code.wp _ _ _ _ _
    refine wp_seq (wp_block (wp_seq (xregion ty_ok ha4 ?_)))
    simp
    intro a5 ha5
    refine xregion ty_ok ha5 ?_
    obtain ⟨g, off, cp', u, hVg, hcell, hru⟩ := tw_cell hJ hlt
    cases hVg
    have hwk : (se[i]?.getD []).length ≤ 1000000 := by
      rw [List.getElem?_eq_getElem hlt]
      exact hw _ (List.getElem_mem hlt)
    have C2 : FCall Try.prog 83 (.ro (.rows 2 ((se[i]?.getD []).map Sc.row))) 38 (.rows 2 ((se[i]?.getD []).map Sc.row)) := fcall_of_own (clone_s 0 _ (by simpa using hwk)) rfl (dat_row _)
    have hcl := C2.at_ hJ.post.heap (fun id => by rw [hJ.post.H]; exact hH0 id) hru
    simp [hcell, hlt]
    refine ⟨rfl, C2.1, hcl.mono ?_⟩
    rintro en w' ⟨v', c2, rfl, rfl, hd2, hp2, hn2⟩
    obtain ⟨k1, k2, arr, k3, k4, c3, k5, hJ3⟩ := tw_step hpk0 hH0 hJ hlt rfl hp2 hn2 hd2 (fun k hk => .old _ _ (by decide) (not_row _ _)) rfl
    refine ⟨v', rfl, k1, k2, arr, ⟨36, k3⟩, k4, fun a6 ha6 => ?_⟩
    show Code.wp _ _ _ _ _
    refine xregion ty_ok ha6 ?_
    simp
    intro a7 ha7
    refine ⟨se.length - (i + 1), by omega, ?_⟩
    rw [hI]
    have hiw := wnext (i := i) (by omega)
    exact ⟨i + 1, c3, by omega, rfl, by rw [k5]; simp, ha7.sub (by simp [lkV, hiw]), hJ3⟩
  · refine wp_exit ?_
    have hlt : ¬ i < se.length := by simpa using hf
    have hdE := tw_end (i := i) hJ (by omega) (cs := .rows 1 (se.map fun w => [PV.old 38 (.rows 2 ((w).map Sc.row))])) (by simp [Cells.len]) rfl (fun k hk => get_map1 [] _ _ (fun w => .old 38 (.rows 2 ((w).map Sc.row))) (fun _ => rfl) hk)
    show Code.wp _ _ _ _ _
    refine wp_seq (xregion ty_ok ha4 ?_)
    simp
    intro a5 ha5
    refine wp_ret ?_
    rw [← hQ]
    refine ⟨ha5.ds, _, results_run2 (us := [.slice A se.length cp]) ?_, _, c, rfl, rfl, hdE, hJ.post⟩
    simp [Try.f36, rvS]
    have := ha5.v 2 (.slice A se.length cp) (by simp [lkV])
    simpa using this

set_option maxHeartbeats 4000000 in
theorem twins_i (st : List (List Int)) (hs : st.length ≤ 1000000) (hw : ∀ w ∈ st, w.length ≤ 1000000) : FCall Try.prog 37 (.ro (.rows 1 (st.map fun w => [PV.ro (.ints .i64 (w))]))) 22 (.rows 1 (st.map fun w => [PV.old 3 (.ints .i64 (w))])) := by
  refine ⟨⟨_, Try.func37, by rfl, by rfl⟩, fun c0 v0 hH0 hpk0 hlt0 hr0 => ?_⟩
  have C1 : FCall Try.prog 84 (.ro (.rows 1 (st.map fun w => [PV.ro (.ints .i64 (w))]))) 22 (.rows 1 (st.map fun w => [PV.ro (.ints .i64 (w))])) :=
    fcall_of_own (clone_ii 0 _ (by simpa using hs)) rfl (dat_map1 [] _ _ (fun _ => rfl) st fun w => .ro (dat_ints w))
  refine calls_of_wp Try.func37 (by rfl) ?_
  generalize hQ : bodyPost Try.prog Try.f37 _ = Q
  have ha0 : XA 21 [] [(0, v0)] { tmps := #[v0] ++ Array.replicate (Try.f37.ntmps - 1) undef, defers := [] } := ⟨by simp [Try.f37], rfl, fun t v h => by
    unfold lkV at h
    split at h
    · cases h; subst_vars; simp
    · cases h⟩
  revert ha0
  generalize ({ tmps := #[v0] ++ Array.replicate (Try.f37.ntmps - 1) undef, defers := [] } : Act) = a0
  intro ha0
  refine wp_seq (xregion ty_ok ha0 ?_)
  simp
  intro a1 ha1
  refine wp_seq (xregion ty_ok ha1 ?_)
  simp
  refine ⟨C1.1, (C1.2 c0 v0 hH0 hpk0 hlt0 hr0).mono ?_⟩
  rintro en w' ⟨V, c1, rfl, rfl, hd1, hp1⟩
  refine ⟨V, rfl, fun a2 ha2 => ?_⟩
  have hJ0 : TwJ c0 V 22 3 st.length (fun k => (.ints .i64 (st[k]?.getD []))) 0 c1 := tw_start hpk0 hH0 hp1 hd1 (by simp [Cells.len]) rfl (fun k hk => get_map1 [] _ _ (fun w => .ro (.ints .i64 (w))) (fun _ => rfl) hk) (fun k hk => .ro (und_ints _))
  clear hd1 hp1 ha0 ha1
  have hV : ∃ A cp, V = .slice A st.length cp := by
    rcases hJ0.V with ⟨h0, A, cp, rfl⟩ | ⟨g, off, cp, arr, rfl, _⟩
    · exact ⟨A, cp, by rw [h0]⟩
    · exact ⟨_, _, rfl⟩
  obtain ⟨A, cp, rfl⟩ := hV
  refine wp_seq (wp_seq (xregion ty_ok ha2 ?_))
  simp
  intro a3 ha3
  refine wp_block ?_
  have ha3 := ha3.sub (l' := [(0, .slice A st.length cp), (7, .int .i64 (st.length : Nat)), (8, .int .i64 0)]) (by simp [lkV])
  obtain ⟨I, hI⟩ : ∃ I : Nat → Act → World → Prop, I = (fun m a w => ∃ (i : Nat) (c : Cx), i ≤ st.length ∧ m = st.length - i ∧ c.w = w ∧ XA 21 [] [(0, .slice A st.length cp), (7, .int .i64 (st.length : Nat)), (8, .int .i64 (i : Nat))] a ∧ TwJ c0 (.slice A st.length cp) 22 3 st.length (fun k => (.ints .i64 (st[k]?.getD []))) i c) := ⟨_, rfl⟩
  refine wp_loop_ghost I st.length (by rw [hI]; exact ⟨0, c1, by omega, by omega, rfl, ha3, hJ0⟩) ?_
  intro m a w hm
  rw [hI] at hm
  revert hm
  rintro ⟨i, c, hi, rfl, rfl, ha, hJ⟩
  refine wp_seq (xregion ty_ok ha ?_)
  simp
  intro a4 ha4
  refine wp_seq (wp_cond_split (t := decide ((i : Int) < (st.length : Nat))) (ha4.v 9 _ (by simp [lkV])) (fun ht => ?_) (fun hf => ?_))
  · refine wp_skip ?_
    have hlt : i < st.length := by simpa using ht
    show Code.wp _ _ _ _ _
    refine wp_seq (wp_block (wp_seq (xregion ty_ok ha4 ?_)))
    simp
    intro a5 ha5
    refine xregion ty_ok ha5 ?_
    obtain ⟨g, off, cp', u, hVg, hcell, hru⟩ := tw_cell hJ hlt
    cases hVg
    have hwk : (st[i]?.getD []).length ≤ 1000000 := by
      rw [List.getElem?_eq_getElem hlt]
      exact hw _ (List.getElem_mem hlt)
    have C2 : FCall Try.prog 39 (.ro (.ints .i64 (st[i]?.getD []))) 3 (.ints .i64 (st[i]?.getD [])) := fcall_of_own (clone_h 0 _ (by omega)) rfl (dat_ints _)
    have hcl := C2.at_ hJ.post.heap (fun id => by rw [hJ.post.H]; exact hH0 id) hru
    simp [hcell, hlt]
    refine ⟨rfl, C2.1, hcl.mono ?_⟩
    rintro en w' ⟨v', c2, rfl, rfl, hd2, hp2, hn2⟩
    obtain ⟨k1, k2, arr, k3, k4, c3, k5, hJ3⟩ := tw_step hpk0 hH0 hJ hlt rfl hp2 hn2 hd2 (fun k hk => .old _ _ (by decide) (not_ints _ _)) rfl
    refine ⟨v', rfl, k1, k2, arr, ⟨22, k3⟩, k4, fun a6 ha6 => ?_⟩
    show Code.wp _ _ _ _ _
    refine xregion ty_ok ha6 ?_
    simp
    intro a7 ha7
    refine ⟨st.length - (i + 1), by omega, ?_⟩
    rw [hI]
    have hiw := wnext (i := i) (by omega)
    exact ⟨i + 1, c3, by omega, rfl, by rw [k5]; simp, ha7.sub (by simp [lkV, hiw]), hJ3⟩
  · refine wp_exit ?_
    have hlt : ¬ i < st.length := by simpa using hf
    have hdE := tw_end (i := i) hJ (by omega) (cs := .rows 1 (st.map fun w => [PV.old 3 (.ints .i64 (w))])) (by simp [Cells.len]) rfl (fun k hk => get_map1 [] _ _ (fun w => .old 3 (.ints .i64 (w))) (fun _ => rfl) hk)
    show Code.wp _ _ _ _ _
    refine wp_seq (xregion ty_ok ha4 ?_)
    simp
    intro a5 ha5
    refine wp_ret ?_
    rw [← hQ]
    refine ⟨ha5.ds, _, results_run2 (us := [.slice A st.length cp]) ?_, _, c, rfl, rfl, hdE, hJ.post⟩
    simp [Try.f37, rvS]
    have := ha5.v 2 (.slice A st.length cp) (by simp [lkV])
    simpa using this

set_option maxHeartbeats 4000000 in
theorem twins_f (tn : List (List Fl)) (hs : tn.length ≤ 1000000) (hw : ∀ w ∈ tn, w.length ≤ 1000000) : FCall Try.prog 38 (.ro (.rows 1 (tn.map fun w => [PV.ro (.rows 5 ((w).map Fl.row))]))) 33 (.rows 1 (tn.map fun w => [PV.old 35 (.rows 5 ((w).map Fl.row))])) := by
  refine ⟨⟨_, Try.func38, by rfl, by rfl⟩, fun c0 v0 hH0 hpk0 hlt0 hr0 => ?_⟩
  have C1 : FCall Try.prog 85 (.ro (.rows 1 (tn.map fun w => [PV.ro (.rows 5 ((w).map Fl.row))]))) 33 (.rows 1 (tn.map fun w => [PV.ro (.rows 5 ((w).map Fl.row))])) :=
    fcall_of_own (clone_ff 0 _ (by simpa using hs)) rfl (dat_map1 [] _ _ (fun _ => rfl) tn fun w => .ro (dat_fl w))
  refine calls_of_wp Try.func38 (by rfl) ?_
  generalize hQ : bodyPost Try.prog Try.f38 _ = Q
  have ha0 : XA 21 [] [(0, v0)] { tmps := #[v0] ++ Array.replicate (Try.f38.ntmps - 1) undef, defers := [] } := ⟨by simp [Try.f38], rfl, fun t v h => by
    unfold lkV at h
    split at h
    · cases h; subst_vars; simp
    · cases h⟩
  revert ha0
  generalize ({ tmps := #[v0] ++ Array.replicate (Try.f38.ntmps - 1) undef, defers := [] } : Act) = a0
  intro ha0
  refine wp_seq (xregion ty_ok ha0 ?_)
  simp
  intro a1 ha1
  refine wp_seq (xregion ty_ok ha1 ?_)
  simp
  refine ⟨C1.1, (C1.2 c0 v0 hH0 hpk0 hlt0 hr0).mono ?_⟩
  rintro en w' ⟨V, c1, rfl, rfl, hd1, hp1⟩
  refine ⟨V, rfl, fun a2 ha2 => ?_⟩
  have hJ0 : TwJ c0 V 33 35 tn.length (fun k => (.rows 5 ((tn[k]?.getD []).map Fl.row))) 0 c1 := tw_start hpk0 hH0 hp1 hd1 (by simp [Cells.len]) rfl (fun k hk => get_map1 [] _ _ (fun w => .ro (.rows 5 ((w).map Fl.row))) (fun _ => rfl) hk) (fun k hk => .ro (und_fl _))
  clear hd1 hp1 ha0 ha1
  have hV : ∃ A cp, V = .slice A tn.length cp := by
    rcases hJ0.V with ⟨h0, A, cp, rfl⟩ | ⟨g, off, cp, arr, rfl, _⟩
    · exact ⟨A, cp, by rw [h0]⟩
    · exact ⟨_, _, rfl⟩
  obtain ⟨A, cp, rfl⟩ := hV
  refine wp_seq (wp_seq (xregion ty_ok ha2 ?_))
  simp
  intro a3 ha3
  refine wp_block ?_
  have ha3 := ha3.sub (l' := [(0, .slice A tn.length cp), (7, .int .i64 (tn.length : Nat)), (8, .int .i64 0)]) (by simp [lkV])
  obtain ⟨I, hI⟩ : ∃ I : Nat → Act → World → Prop, I = (fun m a w => ∃ (i : Nat) (c : Cx), i ≤ tn.length ∧ m = tn.length - i ∧ c.w = w ∧ XA 21 [] [(0, .slice A tn.length cp), (7, .int .i64 (tn.length : Nat)), (8, .int .i64 (i : Nat))] a ∧ TwJ c0 (.slice A tn.length cp) 33 35 tn.length (fun k => (.rows 5 ((tn[k]?.getD []).map Fl.row))) i c) := ⟨_, rfl⟩
  refine wp_loop_ghost I tn.length (by rw [hI]; exact ⟨0, c1, by omega, by omega, rfl, ha3, hJ0⟩) ?_
  intro m a w hm
  rw [hI] at hm
  revert hm
  rintro ⟨i, c, hi, rfl, rfl, ha, hJ⟩
  refine wp_seq (xregion ty_ok ha ?_)
  simp
  intro a4 ha4
  refine wp_seq (wp_cond_split (t := decide ((i : Int) < (tn.length : Nat))) (ha4.v 9 _ (by simp [lkV])) (fun ht => ?_) (fun hf => ?_))
  · refine wp_skip ?_
    have hlt : i < tn.length := by simpa using ht
    show Code.wp _ _ _ _ _
    refine wp_seq (wp_block (wp_seq (xregion ty_ok ha4 ?_)))
    simp
    intro a5 ha5
    refine xregion ty_ok ha5 ?_
    obtain ⟨g, off, cp', u, hVg, hcell, hru⟩ := tw_cell hJ hlt
    cases hVg
    have hwk : (tn[i]?.getD []).length ≤ 1000000 := by
      rw [List.getElem?_eq_getElem hlt]
      exact hw _ (List.getElem_mem hlt)
    have C2 : FCall Try.prog 86 (.ro (.rows 5 ((tn[i]?.getD []).map Fl.row))) 35 (.rows 5 ((tn[i]?.getD []).map Fl.row)) := fcall_of_own (clone_f 0 _ (by simpa using hwk)) rfl (dat_fl _)
    have hcl := C2.at_ hJ.post.heap (fun id => by rw [hJ.post.H]; exact hH0 id) hru
    simp [hcell, hlt]
    refine ⟨rfl, C2.1, hcl.mono ?_⟩
    rintro en w' ⟨v', c2, rfl, rfl, hd2, hp2, hn2⟩
    obtain ⟨k1, k2, arr, k3, k4, c3, k5, hJ3⟩ := tw_step hpk0 hH0 hJ hlt rfl hp2 hn2 hd2 (fun k hk => .old _ _ (by decide) (not_fl _ _)) rfl
    refine ⟨v', rfl, k1, k2, arr, ⟨33, k3⟩, k4, fun a6 ha6 => ?_⟩
    show Code.wp _ _ _ _ _
    refine xregion ty_ok ha6 ?_
    simp
    intro a7 ha7
    refine ⟨tn.length - (i + 1), by omega, ?_⟩
    rw [hI]
    have hiw := wnext (i := i) (by omega)
    exact ⟨i + 1, c3, by omega, rfl, by rw [k5]; simp, ha7.sub (by simp [lkV, hiw]), hJ3⟩
  · refine wp_exit ?_
    have hlt : ¬ i < tn.length := by simpa using hf
    have hdE := tw_end (i := i) hJ (by omega) (cs := .rows 1 (tn.map fun w => [PV.old 35 (.rows 5 ((w).map Fl.row))])) (by simp [Cells.len]) rfl (fun k hk => get_map1 [] _ _ (fun w => .old 35 (.rows 5 ((w).map Fl.row))) (fun _ => rfl) hk)
    show Code.wp _ _ _ _ _
    refine wp_seq (xregion ty_ok ha4 ?_)
    simp
    intro a5 ha5
    refine wp_ret ?_
    rw [← hQ]
    refine ⟨ha5.ds, _, results_run2 (us := [.slice A tn.length cp]) ?_, _, c, rfl, rfl, hdE, hJ.post⟩
    simp [Try.f38, rvS]
    have := ha5.v 2 (.slice A tn.length cp) (by simp [lkV])
    simpa using this
end Go.Proofs.Ytmkgfgdipkagbaa

