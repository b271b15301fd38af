import Derived.Test.YtgheplondkoedaaPvp
namespace Go.Pv
set_option linter.unusedVariables false
set_option linter.unusedSimpArgs false
open Go Go.RowKit
variable {P : Program} {T : Ty} {nt n0 : Nat} {Q : Exit → St → Prop} {st : St}

theorem getT_mem : ∀ (l : List (Nat × PV)) (t : Nat), getT l t = .any ∨ (t, getT l t) ∈ l
  | [], _ => .inl rfl
  | (i, v) :: r, t => by
    simp only [getT]
    by_cases h : i = t
    · subst h; rw [if_pos rfl]; exact .inr (by simp)
    · rw [if_neg h]
      rcases getT_mem r t with h1 | h1
      · exact .inl h1
      · exact .inr (List.mem_cons_of_mem _ h1)


structure Cut (k : Nat) (c c' : Cx) : Prop where
  w : c'.w = c.w
  loc : c'.loc = c.loc
  ow : c'.ow = c.ow
  A : ∀ id, c'.A id ↔ c.A id ∧ id < k
  H : ∀ id b, c'.H id = some b → c.H id = some b ∧ id < k ∧ b.lo k = true

theorem Rep.cut1 {k : Nat} {c c' : Cx} (h : Cut k c c') {q : Bool} {p : PV} {v : Value} (hl : lo1 k p = true) (r : Rep c q p v) : Rep c' q p v := by
  have hb : ∀ b, ¬ c.ow b → b < c.w.heap.size → ¬ c'.ow b ∧ b < c'.w.heap.size ∧ ∀ o, c'.w.cell? ⟨b, o, none⟩ = c.w.cell? ⟨b, o, none⟩ := fun b h1 h2 => by rw [h.w, h.ow]; exact ⟨h1, h2, fun _ => rfl⟩
  cases r with
  | any _ v => exact .any _ v
  | bool _ b => exact .bool _ b
  | int _ k n => exact .int _ k n
  | str _ s => exact .str _ s
  | nilf => exact .nilf _
  | nil _ cs a e => exact .nil _ cs a e
  | ro0 _ cs a cp e => exact .ro0 _ cs a cp e
  | ro _ cs b off cp f h0 hc hb' hlt hcell hr =>
    obtain ⟨h1, h2, h3⟩ := hb b hb' hlt
    exact .ro _ cs b off cp f h0 hc h1 h2 (fun i j hi hj => ⟨(h3 _).trans (hcell i j hi hj).1, (hcell i j hi hj).2⟩) (fun i j hi hj => @Rep.bare c c' hb true rfl _ _ (hr i j hi hj))
  | rop _ cs i0 j0 b off f hb' hlt hcell hr =>
    obtain ⟨h1, h2, h3⟩ := hb b hb' hlt
    exact .rop _ cs i0 j0 b off f h1 h2 (fun i j hi hj => ⟨(h3 _).trans (hcell i j hi hj).1, (hcell i j hi hj).2⟩) (fun i j hi hj => @Rep.bare c c' hb true rfl _ _ (hr i j hi hj))
  | sl id off n tot v ha hs hk =>
    refine .sl id off n tot v ((h.A id).2 ⟨ha, by simpa [lo1] using hl⟩) hs fun blk hb2 => ?_
    rw [h.loc]
    exact hk blk (h.H id blk hb2).1
  | ptr id i j tot v ha hs hk =>
    refine .ptr id i j tot v ((h.A id).2 ⟨ha, by simpa [lo1] using hl⟩) hs fun blk hb2 => ?_
    rw [h.loc]
    exact hk blk (h.H id blk hb2).1
  | asl id j n v ha hs hk =>
    refine .asl id j n v ((h.A id).2 ⟨ha, by simpa [lo1] using hl⟩) hs fun blk hb2 => ?_
    rw [h.loc]
    exact hk blk (h.H id blk hb2).1
  | yld id v ha hs hk =>
    refine .yld id v ((h.A id).2 ⟨ha, by simpa [lo1] using hl⟩) hs fun blk hb2 => ?_
    rw [h.loc]
    exact hk blk (h.H id blk hb2).1
  | fn _ f caps vs h1 h2 =>
    cases caps with
    | nil => exact .fn _ f [] vs h1 (fun i q v h => by simp at h)
    | cons => simp [lo1] at hl
  | agg => simp [lo1] at hl
  | tup => simp [lo1] at hl
  | opt => simp [lo1] at hl
theorem Rep.cut {k : Nat} {c c' : Cx} (h : Cut k c c') {q : Bool} {p : PV} {v : Value} (hl : p.lo k = true) (r : Rep c q p v) : Rep c' q p v := by
  cases p with
  | fn f caps =>
    cases r with
    | fn _ _ _ vs h1 h2 => exact .fn _ f caps vs h1 fun i p v h3 h4 => (h2 i p v h3 h4).cut1 h (List.all_eq_true.1 hl p (List.mem_of_getElem? h3))
  | agg cs =>
    cases r with
    | agg _ _ vs h1 h2 => exact .agg _ cs vs h1 fun i p v h3 h4 => (h2 i p v h3 h4).cut1 h (List.all_eq_true.1 hl p (List.mem_of_getElem? h3))
  | tup cs =>
    cases r with
    | tup _ _ vs h1 h2 => exact .tup _ cs vs h1 fun i p v h3 h4 => (h2 i p v h3 h4).cut1 h (List.all_eq_true.1 hl p (List.mem_of_getElem? h3))
  | _ => exact r.cut1 h hl

theorem lo_get {k : Nat} {cs : Cells} (h : cs.lo k = true) (i j : Nat) : lo1 k (cs.get i j) = true := by
  cases cs with
  | ints => rfl
  | lp => rfl
  | rows w rs =>
    simp only [Cells.get, List.getD_eq_getElem?_getD]
    cases hi : rs[i]? with
    | none => rfl
    | some r =>
      simp only [Option.getD_some]
      cases hj : r[j]? with
      | none => rfl
      | some p => exact List.all_eq_true.1 (List.all_eq_true.1 h r (List.mem_of_getElem? hi)) p (List.mem_of_getElem? hj)

theorem lp_lo {k : Nat} {L' : Loop} {ps : List PV} (h : (Cells.lp L' ps).lo k = true) (t : Nat) : (ps.getD t .any).lo k = true := by
  rw [List.getD_eq_getElem?_getD]
  cases ht : ps[t]? with
  | none => rfl
  | some p => exact List.all_eq_true.1 h p (List.mem_of_getElem? ht)
theorem weak_ok {n0 : Nat} {S : Fr n0} {B : Nat} {W0 : World} {k : Nat} {s s' : St} {a : Act} {w : World} (hs : Sim S B nt W0 s a w) (hw : Weak n0 k s s') : Sim S B nt W0 s' a w := by
  obtain ⟨c, rfl, hH, hok, hfresh, hrep, hsz, hdef, hbel, hS⟩ := hs
  let c' : Cx := { c with H := getH s'.H, A := fun id => c.A id ∧ id < k }
  have hcut : Cut k c c' := ⟨rfl, rfl, rfl, fun _ => Iff.rfl, fun id b hb => by
    have hm := getH_mem s'.H id b hb
    obtain ⟨h1, h2⟩ := hw.H _ hm
    obtain ⟨h3, h4⟩ := h2 b rfl
    exact ⟨by rw [hH]; exact h1, h4, h3⟩⟩
  refine ⟨c', rfl, rfl, ⟨fun id blk hb => ?_, fun id blk g hb hg => hok.own id blk g (hcut.H id blk hb).1 hg, fun i1 i2 b1 b2 g h1 h2 g1 g2 => hok.inj i1 i2 b1 b2 g (hcut.H i1 b1 h1).1 (hcut.H i2 b2 h2).1 g1 g2, hok.base, hok.lt⟩, fun id hid hA => ?_, fun t => ?_, hsz, hdef, hbel, ⟨hS.s, ⟨hS.le.stable, fun id h => ⟨hS.le.all id h, Nat.lt_of_lt_of_le (hS.lt id h) hw.lo⟩, fun id b' h h' => hS.le.ids id b' h (hcut.H id b' h').1⟩, fun b hb => let ⟨h1, h2, h3⟩ := hS.only b hb; ⟨⟨h1.1, fun id b' h' => h1.2 id b' (hcut.H id b' h').1⟩, h2, h3⟩, hS.lt⟩⟩
  · obtain ⟨h1, h2, h3⟩ := hcut.H id blk hb
    obtain ⟨h4, h5⟩ := hok.ok id blk h1
    refine ⟨⟨h4, h2⟩, ?_⟩
    unfold BlkOk at h5 ⊢
    split
    · rename_i hbox
      rw [if_pos hbox] at h5
      obtain ⟨g, vs, T', e1, e2, e3, e4⟩ := h5
      have hlo : blk.cs.lo k = true := by simpa [Blk.lo, hbox] using h3
      exact ⟨g, vs, T', e1, e2, e3.to rfl (fun L' ps he t ht => ht.cut hcut (lp_lo (by rw [he] at hlo; exact hlo) t)), e4.1, fun i j hi hj => by obtain ⟨v, h6, h7, h8⟩ := e4.2 i j hi hj; exact ⟨v, h6, h7.cut1 hcut (lo_get hlo i j), h8⟩⟩
    · rename_i hbox
      rw [if_neg hbox] at h5
      obtain ⟨vs, e1, e2⟩ := h5
      exact ⟨vs, e1, e2.1, fun i j hi hj => by obtain ⟨v, h6, h7, h8⟩ := e2.2 i j hi hj; exact ⟨v, h6, @Rep.bare c c' (fun b h1 h2 => ⟨h1, h2, fun _ => rfl⟩) true rfl _ _ h7, h8⟩⟩
  · rw [hw.n] at hid
    have := hA.2
    omega
  · rcases getT_mem s'.tm t with h | h
    · rw [h]; exact .any ..
    · obtain ⟨h1, h2⟩ := hw.tm _ h
      have := hrep t
      rw [h1] at this
      exact this.cut hcut h2

theorem swp_weak {k : Nat} {c : Code} {s' : St} (hw : Weak n0 k st s') (h : SWp P nt n0 c Q s') : SWp P nt n0 c Q st := fun S B W0 a w hs => h S B W0 a w (weak_ok hs hw)

/-- A loop: what holds of the state at its head, with a number that falls. -/
theorem swp_loop {c : Code} (k : Nat) (I : Nat → St → Prop) (m0 : Nat) (s0 : St) (hw : Weak n0 k st s0) (h0 : I m0 s0)
    (round : ∀ m s, I m s → ∀ K : St → Prop, (∀ s1 s2 m', m' < m → I m' s2 → Weak n0 k s1 s2 → K s1) → SWp P nt n0 c (thn K Q) s) : SWp P nt n0 (.loop c) Q st := fun S B W0 a w hs => by
  refine wp_loop_ghost (fun m a w => ∃ s, I m s ∧ Sim S B nt W0 s a w) m0 ⟨s0, h0, weak_ok hs hw⟩ ?_
  rintro m a w ⟨s, hI, hs⟩
  refine wp_mono (round m s hI (fun s1 => ∃ s2 m', m' < m ∧ I m' s2 ∧ Weak n0 k s1 s2) (fun s1 s2 m' h1 h2 h3 => ⟨s2, m', h1, h2, h3⟩) S B W0 a w hs) ?_
  rintro e a' w' ⟨s1, h1, h2⟩
  cases e with
  | normal =>
    obtain ⟨s2, m', h3, h4, h5⟩ := h1
    exact ⟨m', h3, s2, h4, weak_ok h2 h5⟩
  | _ => exact ⟨s1, h1, h2⟩

/-! ### A function -/
def resP (T : Ty) (H : Nat → Option Blk) (tm : Nat → PV) : List ResultVar → (List PV → Prop) → Prop
  | [], K => K []
  | .tmp t :: r, K => resP T H tm r fun ps => K (tm t :: ps)
  | .cell x t :: r, K => match T t with
    | some ti => ldP ti H (tm x) fun p => resP T H tm r fun ps => K (p :: ps)
    | none => False
def rvS (tmps : Array Value) : ResultVar → Sem Value
  | .tmp t => pure (tmps.getD t undef)
  | .cell a t => do loadVar t (← asAddr (tmps.getD a undef))
theorem load_ptr (hT : TyOk P T) {c : Cx} {B : Nat} (hok : HeapOk c B) {t : TypeId} {ti : TI} (ht : T t = some ti) {p : PV} {v : Value} (hx : Rep c false p v) {K : PV → Prop} (h : ldP ti c.H p K) : ∃ u pv, (do loadVar t (← asAddr v) : Sem Value).run P c.w = .ok u c.w ∧ Rep c false pv u ∧ K pv := by
  have key : ∀ ad, v = .pointer (some ad) → (do loadVar t (← asAddr v) : Sem Value) = Instr.loadAt t (.pointer (some ad)) := fun ad e => by subst e; rfl
  cases p <;> try (exact h.elim)
  case ptr id i j tot =>
    unfold ldP at h
    dsimp only at h
    split at h
    · rename_i b hb
      obtain ⟨hl, h⟩ := h
      obtain ⟨g, hg, hv, hat⟩ := ptr_own hok hx hb hl
      obtain ⟨u, pv, hr, hrep, hk⟩ := load_at hT ht hat h
      rw [Nat.zero_add] at hr
      exact ⟨u, pv, by rw [key _ hv]; exact hr, hrep, hk⟩
    · exact h.elim
  case rop cs i j =>
    obtain ⟨b, off, hv, hat, _, _⟩ := rop_at hx
    obtain ⟨u, pv, hr, hrep, hk⟩ := load_at (K := K) hT ht hat h
    exact ⟨u, pv, by rw [key _ hv]; exact hr, hrep.loose, hk⟩
theorem res_ok (hT : TyOk P T) {c : Cx} {B : Nat} (hok : HeapOk c B) {tm : Nat → PV} {tmps : Array Value} (hrep : ∀ t, Rep c false (tm t) (tmps.getD t undef)) : ∀ (rs : List ResultVar) (K : List PV → Prop), resP T c.H tm rs K →
    ∃ us ps, (rs.mapM (rvS tmps)).run P c.w = .ok us c.w ∧ K ps ∧ RepL c false ps us
  | [], K, h => ⟨[], [], rfl, h, .nil⟩
  | .tmp t :: r, K, h => by
    obtain ⟨us, ps, h1, h2, h3⟩ := res_ok hT hok hrep r _ h
    refine ⟨tmps.getD t undef :: us, _, ?_, h2, .cons (hrep t) h3⟩
    simp only [List.mapM_cons, rvS, Sem.run_bind, Sem.run_pure, Result.andThen_ok, h1]
  | .cell x t :: r, K, h => by
    unfold resP at h
    split at h
    · rename_i ti ht
      obtain ⟨u, pv, h1, h2, h3⟩ := load_ptr hT hok ht (hrep x) h
      obtain ⟨us, ps, h4, h5, h6⟩ := res_ok hT hok hrep r _ h3
      refine ⟨u :: us, _, ?_, h5, .cons h2 h6⟩
      rw [List.mapM_cons, Sem.run_bind]
      rw [show (rvS tmps (.cell x t)).run P c.w = .ok u c.w from h1]
      simp only [Sem.run_bind, Sem.run_pure, Result.andThen_ok, h4]
    · exact h.elim
theorem results_run {fn : Func} {tmps : Array Value} {us : List Value} {w : World} (h : (fn.results.toList.mapM (rvS tmps)).run P w = .ok us w) : (results fn tmps).run P w = .ok (match us with | [u] => u | us => .tuple us.toArray) w := by
  have e : results fn tmps = (do
      let vs ← fn.results.mapM (rvS tmps)
      pure (if h : vs.size = 1 then vs[0] else .tuple vs)) := rfl
  rw [e, Array.mapM_eq_mapM_toList]
  simp only [Sem.run_bind, Sem.run_map, h, Result.andThen_ok]
  match us with
  | [] => rfl
  | [u] => rfl
  | u :: v :: us => simp

def tupOf : List PV → PV
  | [p] => p
  | ps => .tup ps
def fnPost (T : Ty) (fn : Func) (r : PV) : Exit → St → Prop := fun e st => (e = .normal ∨ e = .ret) ∧ resP T (getH st.H) (getT st.tm) fn.results.toList fun vs => frzA (getH st.H) vs fun ps _ => r = tupOf ps
def argT : Nat → List PV → List (Nat × PV)
  | _, [] => []
  | i, p :: ps => (i, p) :: argT (i + 1) ps

theorem argT_get : ∀ (ps : List PV) (i t : Nat), getT (argT i ps) t = if t < i then .any else (ps[t - i]?).getD .any
  | [], i, t => by simp [argT, getT]
  | p :: ps, i, t => by
    simp only [argT, getT]
    by_cases h : i = t
    · subst h; simp
    · rw [if_neg h, argT_get ps (i + 1) t]
      by_cases h2 : t < i
      · rw [if_pos (by omega), if_pos h2]
      · rw [if_neg (by omega), if_neg h2, show t - i = (t - (i + 1)) + 1 by omega, List.getElem?_cons_succ]

/-- A function's contract, out of a walk of its body. -/
theorem pcall_body (hT : TyOk P T) {f : FuncId} {fn : Func} {code : Code} {ps : List PV} {r : PV} (hf : P.funcs[f]? = some fn) (hb : fn.body = some code) (hname : (fn.name == "runtime.NumGoroutine") = false) (hlen : ps.length ≤ fn.ntmps)
    (h : SWp P fn.ntmps 0 code (fnPost T fn r) ⟨argT 0 ps, [], 0⟩) : PCall P f ps r := by
  refine ⟨⟨fn, hf, hname, by rw [hb]; rfl⟩, fun w vs S hS hargs => ?_⟩
  have hsz : vs.size ≤ fn.ntmps := by rw [← hargs.1]; exact hlen
  refine calls_of_wp hf hb (wp_mono (h ⟨S, see S w⟩ w.heap.size w _ w ⟨see S w, rfl, rfl, ⟨(fun id blk h => by cases h), (fun id blk g h => by cases h), (fun i1 i2 b1 b2 g h => by cases h), Nat.le_refl _, hS⟩, fun _ _ h => h, fun t => ?_, by simp; omega, rfl, Below.refl _ _, ⟨fun b hb => ⟨hS b hb, hb⟩, .refl _, fun b h => ⟨h, rfl, fun h => h⟩, fun id h => h.elim⟩⟩) ?_)
  · rw [argT_get, if_neg (by omega), Nat.sub_zero]
    cases hp : ps[t]? with
    | none => exact .any ..
    | some p =>
      have hlt : t < vs.size := by rw [← hargs.1]; exact (List.getElem?_eq_some_iff.1 hp).1
      have hv : vs[t]? = some vs[t] := Array.getElem?_eq_getElem hlt
      have hv' : (vs ++ Array.replicate (fn.ntmps - vs.size) undef)[t]? = some vs[t] := by rw [Array.getElem?_append_left hlt]; exact hv
      rw [Array.getD_eq_getD_getElem?, hv']
      exact (hargs.2 t p _ hp hv).loose
  · rintro e a' w' ⟨st, ⟨he, hr⟩, c, rfl, hH, hok, _, hrep, _, hdef, hbel, hSS⟩
    rw [← hH] at hr
    obtain ⟨us, qs, h1, h2, h3⟩ := res_ok hT hok hrep _ _ hr
    obtain ⟨qs', is, hrq, _, hl⟩ := frzA_ok hok _ _ _ h3 h2
    have hlow : ∀ id ∈ is, ∀ g, blkOf (c.loc id) = some g → ¬ S g := by
      intro id hi g hg hs
      obtain ⟨b, hb⟩ : ∃ b, c.H id = some b := (by assumption : ∀ id ∈ is, ∃ b, c.H id = some b) id hi
      have h4 := ((hok.ok id b hb).2.lt hg).1
      have h5 := (hSS.s g hs).1
      omega
    have hl' := hl S (fun b hb => (hSS.s b hb).2) hlow
    have hres := results_run h1
    have hfin : ∃ v, (results fn a'.tmps).run P c.w = .ok v c.w ∧ ∃ v', Ending.returned v = .returned v' ∧ Rep (see S c.w) true r v' ∧ Below w.heap.size w c.w := by
      refine ⟨_, hres, _, rfl, ?_, hbel⟩
      rw [hrq]
      match us, qs', hl' with
      | [], [], _ => exact .tup true [] _ rfl (fun i q v h => by simp at h)
      | [u], [q], hl => exact hl.2 0 q u rfl rfl
      | u :: v :: us, p :: q :: qs, hl => exact .tup true _ _ (by simpa using hl.1) (fun i p u h1 h2 => hl.2 i p u h1 (by simpa using h2))
      | [], _ :: _, hl => exact absurd hl.1 (by simp)
      | [_], [], hl => exact absurd hl.1 (by simp)
      | [_], _ :: _ :: _, hl => exact absurd hl.1 (by simp)
      | _ :: _ :: _, [], hl => exact absurd hl.1 (by simp)
      | _ :: _ :: _, [_], hl => exact absurd hl.1 (by simp)
    obtain ⟨v, h6, v', h7, h8, h9⟩ := hfin
    rcases he with rfl | rfl
    · exact ⟨hdef, v, h6, v', h7, h8, h9⟩
    · exact ⟨hdef, v, h6, v', h7, h8, h9⟩
end Go.Pv
