import Derived.Test.YtgheplondkoedaaPvl
namespace Go.Pv
set_option linter.unusedVariables false
set_option linter.unusedSimpArgs false
open Go Go.RowKit
variable {P : Program} {T : Ty} {o : Oper} {a : Act} {c : Cx} {B n : Nat} {tm : Nat → PV} {K : PV → Eff → Prop}

theorem args_ok {ρ : TypeId → Operand → PV} (hρ : ∀ t x, Rep c false (ρ t x) (a.eval x)) : ∀ (xs : List Operand) (ts : List TypeId), RepL c false (argsP ρ xs ts) (xs.map a.eval)
  | [], _ => .nil
  | x :: xs, [] => .cons (hρ 0 x) (args_ok hρ xs [])
  | x :: xs, t :: ts => .cons (hρ t x) (args_ok hρ xs ts)

theorem grown_below {w w' : World} {row : Option Nat} (h : Below w.heap.size w w') : w.grownBy w' row := ⟨h.os, h.tape, h.output, h.size, fun j hj _ => h.block j hj⟩

theorem RepL.app {q : Bool} {ps ps' : List PV} {us us' : List Value} (h : RepL c q ps us) (h' : RepL c q ps' us') : RepL c q (ps ++ ps') (us ++ us') := by
  refine ⟨by simp [h.1, h'.1], fun i p u h1 h2 => ?_⟩
  by_cases hi : i < ps.length
  · rw [List.getElem?_append_left hi] at h1
    rw [List.getElem?_append_left (by rw [← h.1]; exact hi)] at h2
    exact h.2 i p u h1 h2
  · rw [List.getElem?_append_right (by omega)] at h1
    rw [List.getElem?_append_right (by have := h.1; omega), ← h.1] at h2
    exact h'.2 _ p u h1 h2

theorem scal1_rep {c c' : Cx} {q q' : Bool} {p : PV} {v : Value} (h : scal1 p = true) (r : Rep c q p v) : Rep c' q' p v := by
  cases r <;> first | (cases h; done) | constructor
theorem scal_rep {c c' : Cx} {q q' : Bool} {p : PV} {v : Value} (h : p.scal = true) (r : Rep c q p v) : Rep c' q' p v := by
  cases p with
  | agg cs =>
    cases r with
    | agg _ _ vs h1 h2 => exact .agg _ _ _ h1 fun i p v h3 h4 => scal1_rep (List.all_eq_true.1 h p (List.mem_of_getElem? h3)) (h2 i p v h3 h4)
  | tup cs =>
    cases r with
    | tup _ _ vs h1 h2 => exact .tup _ _ _ h1 fun i p v h3 h4 => scal1_rep (List.all_eq_true.1 h p (List.mem_of_getElem? h3)) (h2 i p v h3 h4)
  | _ => exact scal1_rep h r

-- CUT
structure CutP (L : Nat → Bool) (c c' : Cx) : Prop where
  w : c'.w = c.w
  loc : c'.loc = c.loc
  ow : c'.ow = c.ow
  A : ∀ id, L id = true → c.A id → c'.A id
  H : ∀ id b, c'.H id = some b → c.H id = some b ∧ b.inL L = true

theorem Rep.cutP1 {L : Nat → Bool} {c c' : Cx} (h : CutP L c c') {q : Bool} {p : PV} {v : Value} (hl : inL1 L p = true) (r : Rep c q p v) : Rep c' q p v := by
  have hb : ∀ b, ¬ c.ow b → b < c.w.heap.size → ¬ c'.ow b ∧ b < c'.w.heap.size ∧ ∀ o, c'.w.cell? ⟨b, o, none⟩ = c.w.cell? ⟨b, o, none⟩ := fun b h1 h2 => by rw [h.w, h.ow]; exact ⟨h1, h2, fun _ => rfl⟩
  cases r with
  | any _ v => exact .any _ v
  | bool _ b => exact .bool _ b
  | int _ k n => exact .int _ k n
  | str _ s => exact .str _ s
  | nilf => exact .nilf _
  | nil _ cs a e => exact .nil _ cs a e
  | ro0 _ cs a cp e => exact .ro0 _ cs a cp e
  | ro _ cs b off cp f h0 hc hb' hlt hcell hr =>
    obtain ⟨h1, h2, h3⟩ := hb b hb' hlt
    exact .ro _ cs b off cp f h0 hc h1 h2 (fun i j hi hj => ⟨(h3 _).trans (hcell i j hi hj).1, (hcell i j hi hj).2⟩) (fun i j hi hj => @Rep.bare c c' hb true rfl _ _ (hr i j hi hj))
  | rop _ cs i0 j0 b off f hb' hlt hcell hr =>
    obtain ⟨h1, h2, h3⟩ := hb b hb' hlt
    exact .rop _ cs i0 j0 b off f h1 h2 (fun i j hi hj => ⟨(h3 _).trans (hcell i j hi hj).1, (hcell i j hi hj).2⟩) (fun i j hi hj => @Rep.bare c c' hb true rfl _ _ (hr i j hi hj))
  | sl id off n tot v ha hs hk =>
    refine .sl id off n tot v (h.A id (by simpa [inL1] using hl) ha) hs fun blk hb2 => ?_
    rw [h.loc]
    exact hk blk (h.H id blk hb2).1
  | ptr id i j tot v ha hs hk =>
    refine .ptr id i j tot v (h.A id (by simpa [inL1] using hl) ha) hs fun blk hb2 => ?_
    rw [h.loc]
    exact hk blk (h.H id blk hb2).1
  | asl id j n v ha hs hk =>
    refine .asl id j n v (h.A id (by simpa [inL1] using hl) ha) hs fun blk hb2 => ?_
    rw [h.loc]
    exact hk blk (h.H id blk hb2).1
  | yld id v ha hs hk =>
    refine .yld id v (h.A id (by simpa [inL1] using hl) ha) hs fun blk hb2 => ?_
    rw [h.loc]
    exact hk blk (h.H id blk hb2).1
  | fn _ f caps vs h1 h2 =>
    cases caps with
    | nil => exact .fn _ f [] vs h1 (fun i q v h => by simp at h)
    | cons => simp [inL1] at hl
  | agg => simp [inL1] at hl
  | tup => simp [inL1] at hl
  | opt => simp [inL1] at hl
theorem Rep.cutP {L : Nat → Bool} {c c' : Cx} (h : CutP L c c') {q : Bool} {p : PV} {v : Value} (hl : p.inL L = true) (r : Rep c q p v) : Rep c' q p v := by
  cases p with
  | fn f caps =>
    cases r with
    | fn _ _ _ vs h1 h2 => exact .fn _ f caps vs h1 fun i p v h3 h4 => (h2 i p v h3 h4).cutP1 h (List.all_eq_true.1 hl p (List.mem_of_getElem? h3))
  | agg cs =>
    cases r with
    | agg _ _ vs h1 h2 => exact .agg _ cs vs h1 fun i p v h3 h4 => (h2 i p v h3 h4).cutP1 h (List.all_eq_true.1 hl p (List.mem_of_getElem? h3))
  | tup cs =>
    cases r with
    | tup _ _ vs h1 h2 => exact .tup _ cs vs h1 fun i p v h3 h4 => (h2 i p v h3 h4).cutP1 h (List.all_eq_true.1 hl p (List.mem_of_getElem? h3))
  | _ => exact r.cutP1 h hl


theorem inL_get {L : Nat → Bool} {cs : Cells} (h : cs.inL L = true) (i j : Nat) : inL1 L (cs.get i j) = true := by
  cases cs with
  | ints => rfl
  | lp => rfl
  | rows w rs =>
    simp only [Cells.get, List.getD_eq_getElem?_getD]
    cases hi : rs[i]? with
    | none => rfl
    | some r =>
      simp only [Option.getD_some]
      cases hj : r[j]? with
      | none => rfl
      | some p => exact List.all_eq_true.1 (List.all_eq_true.1 h r (List.mem_of_getElem? hi)) p (List.mem_of_getElem? hj)

theorem getH_mem : ∀ (l : List (Nat × Option Blk)) (t : Nat) (b : Blk), getH l t = some b → (t, some b) ∈ l
  | [], _, _, h => by cases h
  | (i, v) :: r, t, b, h => by
    simp only [getH] at h
    by_cases hi : i = t
    · subst hi; rw [if_pos rfl] at h; subst h; simp
    · rw [if_neg hi] at h
      exact List.mem_cons_of_mem _ (getH_mem r t b h)

theorem does_call (hok : HeapOk c B) {ρ : TypeId → Operand → PV} (hρ : ∀ t x, Rep c false (ρ t x) (a.eval x)) {cl : Call} {f : Operand} (hop : o.op = .call cl) (hcl : cl.callee = .value f) {g : Nat} {caps : List PV} (hf : ρ 0 f = .fn g caps)
    (h : frzA c.H (argsP ρ cl.args.toList cl.argTypes.toList ++ caps) fun ps is => ∃ r, PCall P g ps r ∧ (if r.scal then K r [] else K r (is.map fun i => (i, none)))) : Does P o a c B K := fun next Q hnext => by
  have hfr := hρ 0 f
  rw [hf] at hfr
  obtain ⟨cv, hcv, hcaps⟩ : ∃ cv : Array Value, a.eval f = .func (.func g) #[] cv ∧ RepL c false caps cv.toList := by
    generalize a.eval f = v at hfr
    cases hfr with
    | fn _ _ _ vs h1 h2 => exact ⟨vs, rfl, repL_of h1 h2⟩
  obtain ⟨ps, is, ⟨r, ⟨⟨fn, h1, h2, h3⟩, hcall⟩, hK⟩, hA, hl⟩ := frzA_ok hok _ _ _ ((args_ok hρ cl.args.toList cl.argTypes.toList).app hcaps) h
  have hrun : (execOp a.eval o).run P c.w = .ok (.enter g (cl.args.map a.eval ++ cv)) c.w := by
    simp only [execOp, hop, resolve, hcl, hcv, Deferred.ofValue, Sem.run_bind, Sem.run_pure, Result.andThen_ok, invoke, callFunc, program, Sem.run, h1, h2, h3]
    simp
  let S : Nat → Prop := fun b => c.ow b ∧ ∀ id ∈ is, blkOf (c.loc id) ≠ some b
  have hl' := hl S (fun b h => h.1) (fun id hi g hg h => h.2 id hi hg)
  unfold Oper.wp
  rw [hrun]
  refine (hcall c.w (cl.args.map a.eval ++ cv) S (fun b hb => hok.lt b hb.1) ⟨by have := hl'.1; simpa using this, fun i p v hp hv => hl'.2 i p v hp (by rw [← Array.getElem?_toList] at hv; simpa using hv)⟩).mono ?_
  rintro e w' ⟨v, rfl, hr, hb⟩
  show next (a.put o.dst v) w'
  obtain ⟨c', hcw, hloc, how, hpost⟩ := post_world (w' := w') hok (grown_below hb)
  split at hK
  · rename_i hs
    rw [← hcw]
    exact hnext r [] v c' hK (scal_rep hs hr) hpost
  · obtain ⟨c2, k1, k2, k3, k4, k5⟩ := kills_ok is c' hpost.heap fun i hi => (hpost.A i).2 (.inl (let ⟨b, hb⟩ := hA i hi; (hok.ok i b hb).1))
    rw [← hcw, ← k1]
    refine hnext r _ v c2 hK ?_ (hpost.trans k3)
    refine (@Rep.bare (see S w') c2 (fun b hb' hlt => ⟨fun ho => ?_, by rw [k1, hcw]; exact hlt, fun _ => by rw [k1, hcw]; rfl⟩) true rfl _ _ hr).loose
    have ho1 : c.ow b := by rw [← how]; exact k4 b ho
    refine hb' ⟨ho1, fun id hi e => ?_⟩
    obtain ⟨blk, hH⟩ := hA id hi
    refine k5 id hi blk b ?_ (by rw [hloc]; exact e) ho
    rw [hpost.H]
    exact hH

theorem eff_off {e : Eff} {H : Nat → Option Blk} {id : Nat} (h : ∀ p ∈ e, p.1 ≠ id) : e.on H id = H id := by
  induction e generalizing H with
  | nil => rfl
  | cons p r ih =>
    obtain ⟨i, b⟩ := p
    show Eff.on r (put H i b) id = H id
    rw [ih (fun q hq => h q (List.mem_cons_of_mem _ hq)), put_ne _ _ (h (i, b) (by simp))]
theorem eff_same {e : Eff} {H H' : Nat → Option Blk} {id : Nat} (h : H id = H' id) : e.on H id = e.on H' id := by
  induction e generalizing H H' with
  | nil => exact h
  | cons p r ih =>
    obtain ⟨i, b⟩ := p
    refine ih ?_
    rw [put_at, put_at]
    split
    · rfl
    · exact h
theorem eff_in {e : Eff} : ∀ {H H' : Nat → Option Blk} {id : Nat}, id ∈ e.map (·.1) → e.on H id = e.on H' id := by
  induction e with
  | nil => intro H H' id h; simp at h
  | cons p r ih =>
    obtain ⟨i, b⟩ := p
    intro H H' id h
    show Eff.on r (put H i b) id = Eff.on r (put H' i b) id
    by_cases hr : id ∈ r.map (·.1)
    · exact ih hr
    · have : i = id := by
        rcases List.mem_cons.1 h with h | h
        · exact h.symm
        · exact absurd h hr
      subst this
      exact eff_same (by rw [put_same, put_same])
theorem getH_eq {H : Nat → Option Blk} : ∀ {l : List (Nat × Option Blk)} {id : Nat}, (∀ p ∈ l, H p.1 = p.2) → id ∈ l.map (·.1) → getH l id = H id
  | (i, v) :: r, id, h, hm => by
    simp only [getH]
    by_cases hi : i = id
    · subst hi; rw [if_pos rfl]; exact (h (i, v) (by simp)).symm
    · rw [if_neg hi]
      refine getH_eq (fun p hp => h p (List.mem_cons_of_mem _ hp)) ?_
      rcases List.mem_cons.1 hm with h | h
      · exact absurd h.symm hi
      · exact h
theorem getH_no : ∀ {l : List (Nat × Option Blk)} {id : Nat}, ¬ id ∈ l.map (·.1) → getH l id = none
  | [], id, _ => rfl
  | (i, v) :: r, id, h => by
    simp only [getH]
    rw [if_neg (fun e => h (by simp [e]))]
    exact getH_no fun h' => h (List.mem_cons_of_mem _ h')
theorem lp_inL {L : Nat → Bool} {L' : Loop} {ps : List PV} (h : (Cells.lp L' ps).inL L = true) (t : Nat) : (ps.getD t .any).inL L = true := by
  rw [List.getD_eq_getElem?_getD]
  cases ht : ps[t]? with
  | none => rfl
  | some p => exact List.all_eq_true.1 h p (List.mem_of_getElem? ht)
theorem HeapOk.cut {L : Nat → Bool} {c1 : Cx} (hcut : CutP L c c1) (hA : ∀ id b, c1.H id = some b → c1.A id) (hok : HeapOk c B) : HeapOk c1 B := by
  refine ⟨fun id blk hb => ?_, fun id blk g hb hg => ?_, fun i1 i2 b1 b2 g h1 h2 g1 g2 => ?_, by rw [hcut.w]; exact hok.base, fun b hb => ?_⟩
  · obtain ⟨h4, h5⟩ := hcut.H id blk hb
    obtain ⟨h6, h7⟩ := hok.ok id blk h4
    refine ⟨hA id blk hb, ?_⟩
    rw [hcut.loc]
    unfold BlkOk at h7 ⊢
    split
    · rename_i hbox
      rw [if_pos hbox] at h7
      obtain ⟨g, us, T', e1, e2, e3, e4⟩ := h7
      have hlo : blk.cs.inL L = true := by simpa [Blk.inL, hbox] using h5
      exact ⟨g, us, T', e1, e2, e3.to (by rw [hcut.w]) (fun L' ps he t ht => ht.cutP hcut (lp_inL (by rw [he] at hlo; exact hlo) t)), e4.1, fun i j hi hj => by obtain ⟨v, h6, h7, h8⟩ := e4.2 i j hi hj; exact ⟨v, h6, h7.cutP1 hcut (inL_get hlo i j), h8⟩⟩
    · rename_i hbox
      rw [if_neg hbox] at h7
      obtain ⟨us, e1, e2⟩ := h7
      refine ⟨us, by rw [hcut.w]; exact e1, e2.1, fun i j hi hj => ?_⟩
      obtain ⟨v, h6, h7, h8⟩ := e2.2 i j hi hj
      exact ⟨v, h6, @Rep.bare c c1 (fun b h1 h2 => by rw [hcut.w, hcut.ow]; exact ⟨h1, h2, fun _ => rfl⟩) true rfl _ _ h7, h8⟩
  · rw [hcut.loc] at hg
    rw [hcut.ow]
    exact hok.own id blk g (hcut.H id blk hb).1 hg
  · rw [hcut.loc] at g1 g2
    exact hok.inj i1 i2 b1 b2 g (hcut.H i1 b1 h1).1 (hcut.H i2 b2 h2).1 g1 g2
  · rw [hcut.ow] at hb
    rw [hcut.w]
    exact hok.lt b hb

theorem does_hcall (hok : HeapOk c B) (hn : ∀ q, q < 8 → ¬ c.A (n + q)) {ρ : TypeId → Operand → PV} (hρ : ∀ t x, Rep c false (ρ t x) (a.eval x)) {cl : Call} {f : Operand} (hop : o.op = .call cl) (hcle : cl.callee = .value f) {g : Nat} {caps : List PV} (hf : ρ 0 f = .fn g caps)
    (h : hcl P c.H n g (argsP ρ cl.args.toList cl.argTypes.toList ++ caps) K) : Does P o a c B K := fun next Q hnext => by
  have hfr := hρ 0 f
  rw [hf] at hfr
  obtain ⟨cv, hcv, hcaps⟩ : ∃ cv : Array Value, a.eval f = .func (.func g) #[] cv ∧ RepL c false caps cv.toList := by
    generalize a.eval f = v at hfr
    cases hfr with
    | fn _ _ _ vs h1 h2 => exact ⟨vs, rfl, repL_of h1 h2⟩
  obtain ⟨Hr, r, e, ⟨⟨fn, h1, h2, h3⟩, hcall⟩, hHr, hargs, hfresh, hK⟩ := h
  have hrun : (execOp a.eval o).run P c.w = .ok (.enter g (cl.args.map a.eval ++ cv)) c.w := by
    simp only [execOp, hop, resolve, hcle, hcv, Deferred.ofValue, Sem.run_bind, Sem.run_pure, Result.andThen_ok, invoke, callFunc, program, Sem.run, h1, h2, h3]
    simp
  let L : Nat → Bool := fun i => (Hr.map (·.1)).contains i
  have hL : ∀ {i}, L i = true ↔ i ∈ Hr.map (·.1) := fun {i} => by simp only [L, List.contains_iff_mem]
  have hHe : ∀ {id}, id ∈ Hr.map (·.1) → getH Hr id = c.H id := fun {id} hm => getH_eq (fun p hp => (hHr p hp).2.2.1) hm
  have hHlt : ∀ {id}, id ∈ Hr.map (·.1) → id < n := fun {id} hm => by obtain ⟨p, hp, rfl⟩ := List.mem_map.1 hm; exact (hHr p hp).2.1
  let c1 : Cx := { c with H := getH Hr, A := fun id => c.A id ∧ id ∈ Hr.map (·.1) }
  have hHs : ∀ {id b}, c1.H id = some b → id ∈ Hr.map (·.1) ∧ c.H id = some b := fun {id b} hb => by
    have hm : id ∈ Hr.map (·.1) := List.mem_map.2 ⟨_, getH_mem Hr id b hb, rfl⟩
    exact ⟨hm, by rw [← hHe hm]; exact hb⟩
  have hcut : CutP L c c1 := ⟨rfl, rfl, rfl, fun id hl ha => ⟨ha, hL.1 hl⟩, fun id b hb => ⟨(hHs hb).2, (hHr _ (getH_mem Hr id b hb)).2.2.2 b rfl⟩⟩
  have hok1 : HeapOk c1 B := hok.cut hcut fun id b hb => ⟨(hok.ok id b (hHs hb).2).1, (hHs hb).1⟩
  have hl := (args_ok hρ cl.args.toList cl.argTypes.toList).app hcaps
  unfold Oper.wp
  rw [hrun]
  refine (hcall c1 B (cl.args.map a.eval ++ cv) hok1 rfl (fun id hid hA => by have := hHlt hA.2; omega) ⟨by have := hl.1; simpa using this, fun i p v hp hv => ?_⟩).mono ?_
  · exact (hl.2 i p v hp (by rw [← Array.getElem?_toList] at hv; simpa using hv)).cutP hcut (List.all_eq_true.1 hargs p (List.mem_of_getElem? hp))
  rintro en w' ⟨v, c2, rfl, rfl, hr, hpost⟩
  show next (a.put o.dst v) c2.w
  have hA2 : ∀ {id}, c2.A id ↔ (c.A id ∧ id ∈ Hr.map (·.1)) ∨ id ∈ e.map (·.1) := fun {id} => hpost.A id
  have hnew : ∀ {id}, id ∈ e.map (·.1) → c.A id → id ∈ Hr.map (·.1) := fun {id} hm ha => by
    obtain ⟨p, hp, rfl⟩ := List.mem_map.1 hm
    rcases hfresh p hp with h | h
    · exact h
    · refine absurd ha ?_
      have := hn (p.1 - n) (by omega)
      rwa [show n + (p.1 - n) = p.1 by omega] at this
  let c' : Cx := { w := c2.w, loc := fun id => @ite _ (c2.A id) (Classical.propDecidable _) (c2.loc id) (c.loc id), H := e.on c.H, A := fun id => c.A id ∨ id ∈ e.map (·.1), ow := c2.ow }
  have hloc1 : ∀ {id}, c2.A id → c'.loc id = c2.loc id := fun {id} ha => if_pos ha
  have hloc0 : ∀ {id}, ¬ c2.A id → c'.loc id = c.loc id := fun {id} ha => if_neg ha
  have hH1 : ∀ {id}, c2.A id → c'.H id = c2.H id := fun {id} ha => by
    rw [hpost.H]
    show e.on c.H id = e.on (getH Hr) id
    rcases hA2.1 ha with h | h
    · exact eff_same (hHe h.2).symm
    · exact eff_in h
  have hH0 : ∀ {id}, ¬ c2.A id → c'.H id = c.H id := fun {id} ha => eff_off fun p hp e' => ha (hA2.2 (.inr (List.mem_map.2 ⟨p, hp, e'⟩)))
  have hidle : ∀ {id blk g}, ¬ c2.A id → c.H id = some blk → blkOf (c.loc id) = some g → c1.idle g := fun {id blk g} ha hb hg => by
    refine ⟨((hok.ok id blk hb).2.lt hg).2, fun id' bk' hb' e' => ?_⟩
    obtain ⟨hm, hb2⟩ := hHs hb'
    have : id' = id := hok.inj id' id bk' blk g hb2 hb e' hg
    subst this
    exact ha (hA2.2 (.inl ⟨(hok.ok _ blk hb).1, hm⟩))
  have hle2 : c2.Le c' := ⟨fun b h1 h2 => ⟨h1, h2, fun _ => rfl⟩, fun id ha => (hA2.1 ha).elim (fun h => .inl h.1) .inr, fun id blk' ha hb => ⟨blk', by rw [← hH1 ha]; exact hb, Nat.le_refl _, rfl, rfl, fun _ => hloc1 ha⟩⟩
  have hle : c.Le c' := by
    refine ⟨hpost.le.stable, fun id h => .inl h, fun id blk' ha hb => ?_⟩
    by_cases h2 : c2.A id
    · have ha1 : c1.A id := ⟨ha, (hA2.1 h2).elim (fun h => h.2) fun h => hnew h ha⟩
      obtain ⟨blk, k1, k2, k3, k4, k5⟩ := hpost.le.ids id blk' ha1 (by rw [← hH1 h2]; exact hb)
      exact ⟨blk, (hHs k1).2, k2, k3, k4, fun e' => (hloc1 h2).trans (k5 e')⟩
    · exact ⟨blk', by rw [← hH0 h2]; exact hb, Nat.le_refl _, rfl, rfl, fun _ => hloc0 h2⟩
  have hlow : ∀ b, b < B → c1.idle b := fun b hb => ⟨Nat.lt_of_lt_of_le hb hok.base, fun id' bk' hb' e' => by
    have := ((hok.ok id' bk' (hHs hb').2).2.lt e').1
    omega⟩
  have hidc : ∀ b, c.idle b → c1.idle b := fun b hb => ⟨hb.1, fun id' bk' hb' => hb.2 id' bk' (hHs hb').2⟩
  have hheap : HeapOk c' B := by
    refine ⟨fun id blk hb => ?_, fun id blk g hb hg => ?_, fun i1 i2 b1 b2 g h1 h2 g1 g2 => ?_, hpost.heap.base, hpost.heap.lt⟩
    · by_cases h2 : c2.A id
      · rw [hH1 h2] at hb
        rw [hloc1 h2]
        obtain ⟨k1, k2⟩ := hpost.heap.ok id blk hb
        exact ⟨hle2.all id k1, k2.mono hle2 fun _ _ => rfl⟩
      · rw [hH0 h2] at hb
        rw [hloc0 h2]
        obtain ⟨k1, k2⟩ := hok.ok id blk hb
        exact ⟨.inl k1, k2.mono hle fun g hg => (hpost.only g (hidle h2 hb hg)).2.1⟩
    · by_cases h2 : c2.A id
      · rw [hH1 h2] at hb
        rw [hloc1 h2] at hg
        exact hpost.heap.own id blk g hb hg
      · rw [hH0 h2] at hb
        rw [hloc0 h2] at hg
        exact (hpost.only g (hidle h2 hb hg)).2.2 (hok.own id blk g hb hg)
    · by_cases a1 : c2.A i1
      · by_cases a2 : c2.A i2
        · rw [hH1 a1] at h1
          rw [hH1 a2] at h2
          rw [hloc1 a1] at g1
          rw [hloc1 a2] at g2
          exact hpost.heap.inj i1 i2 b1 b2 g h1 h2 g1 g2
        · rw [hH1 a1] at h1
          rw [hH0 a2] at h2
          rw [hloc1 a1] at g1
          rw [hloc0 a2] at g2
          exact absurd g1 ((hpost.only g (hidle a2 h2 g2)).1.2 i1 b1 h1)
      · by_cases a2 : c2.A i2
        · rw [hH0 a1] at h1
          rw [hH1 a2] at h2
          rw [hloc0 a1] at g1
          rw [hloc1 a2] at g2
          exact absurd g2 ((hpost.only g (hidle a1 h1 g1)).1.2 i2 b2 h2)
        · rw [hH0 a1] at h1
          rw [hH0 a2] at h2
          rw [hloc0 a1] at g1
          rw [hloc0 a2] at g2
          exact hok.inj i1 i2 b1 b2 g h1 h2 g1 g2
  refine hnext r e v c' hK (hr.mono hle2) ⟨hle, hheap, rfl, fun id => Iff.rfl, hpost.below, fun b hb ho => (hpost.only b (hlow b hb)).2.2 ho, fun b hb => ?_⟩
  obtain ⟨k1, k2, k3⟩ := hpost.only b (hidc b hb)
  refine ⟨⟨k1.1, fun id' bk' hb' e' => ?_⟩, k2, k3⟩
  by_cases h2 : c2.A id'
  · rw [hH1 h2] at hb'
    rw [hloc1 h2] at e'
    exact k1.2 id' bk' hb' e'
  · rw [hH0 h2] at hb'
    rw [hloc0 h2] at e'
    exact hb.2 id' bk' hb' e'

theorem conv_str (hT : TyOk P T) (hok : HeapOk c B) {s d e : TypeId} {ts td te : TI} {x : Operand} (hop : o.op = .convert s d x) (hs : T s = some ts) (hsk : ts.k = .slice e) (he : T e = some te) (hek : te.k = .int .u8) (hd : T d = some td) (hdk : td.k = .str) {p : PV} (hx : Rep c false p (a.eval x))
    (h : rdS c.H p fun cs => match cs with
          | .ints .u8 xs => K (.str (xs.foldl (fun r n => r.push (UInt8.ofNat n.toNat)) ByteArray.empty)) []
          | .rows _ [] => K (.str ByteArray.empty) []
          | _ => False) : Does P o a c B K := by
  have hsu := (hT.slice s ts e hs hsk).1
  have heu := (hT.int e te .u8 he hek).1
  have hdu := (hT.str d td hd hdk).1
  obtain ⟨cs, hK, hc⟩ := rdS_ok hok hx h
  have hex : execOp a.eval o = (do pure (.value (← convert s d (a.eval x)))) := by simp only [execOp, hop]
  have key : ∀ A n cp, a.eval x = .slice A n cp → (convert s d (.slice A n cp)).run P c.w = (Conv.bytesToString (.slice A n cp)).run P c.w := fun A n cp _ => run_convert_bytes_string c.w s d e A n cp hsu heu hdu
  have hempty : ∀ A cp, (Conv.bytesToString (.slice A 0 cp)).run P c.w = .ok (.string ByteArray.empty) c.w := fun A cp => by
    cases A with
    | none => rfl
    | some ad =>
      have := run_bytesToString (P := P) c.w ad 0 cp [] (by rfl)
      simpa using this
  rcases hc with ⟨h0, A, cp, hv⟩ | ⟨h0, b, off, cp, hv, hcp, hat, hlt⟩
  · refine does_sem hex (by rw [hv, key A 0 cp hv]; exact hempty A cp) (.str ..) (pv := .str ByteArray.empty) ?_ hok
    split at hK
    · rename_i xs
      have : xs = [] := List.eq_nil_of_length_eq_zero h0
      subst this
      exact hK
    · exact hK
    · exact hK.elim
  · split at hK
    · rename_i xs
      refine does_sem hex (by
        rw [hv, key _ _ _ hv]
        refine run_bytesToString (P := P) c.w ⟨b, off, none⟩ _ cp xs ?_
        have hl : (loadCells ⟨b, off, none⟩ (xs.map (Value.int .u8)).length).run P c.w = .ok (xs.map (Value.int .u8)).toArray c.w := run_loadCells_list (P := P) c.w ⟨b, off, none⟩ (xs.map (Value.int .u8)) (fun j v hj => by
          have hj' : j < xs.length := by
            rcases Nat.lt_or_ge j xs.length with h | h
            · exact h
            · rw [List.getElem?_eq_none (by simpa using h)] at hj; cases hj
          obtain ⟨v', h1, h2, _⟩ := hat j 0 hj' (by simp [Cells.w])
          rw [Addr.add_lit]
          simp only [Cells.w, Nat.mul_one, Nat.add_zero] at h1
          rw [h1]
          cases h2
          simp [hj'] at hj
          subst hj
          simp [hj'])
        simpa [Cells.len] using hl) (.str ..) hK hok
    · exact absurd h0 (by simp [Cells.len])
    · exact hK.elim

theorem under_of (hT : TyOk P T) {t : TypeId} {ti : TI} (ht : T t = some ti) : ∃ d, P.underlying t = some d := by
  cases h : ti.k.agg with
  | true => obtain ⟨d, hd, _⟩ := agg_of hT ht h; exact ⟨d, hd⟩
  | false => obtain ⟨d, hd, _⟩ := plain_of hT ht h; exact ⟨d, hd⟩

theorem does_index (hT : TyOk P T) (hok : HeapOk c B) {t m e : TypeId} {x ix : Operand} (hop : o.op = .index t x ix) {ti te : TI} (ht : T t = some ti) (hk : ti.k = .arr m e) (hte : T e = some te) {k : IntKind} {i : Int} {cs : List PV} (hx : Rep c false (.agg cs) (a.eval x)) (hi : a.eval ix = .int k i) (h0 : 0 ≤ i) (h1 : i < m)
    (h : if te.k.agg then i.toNat * te.sz + te.sz ≤ cs.length ∧ K (.agg ((cs.drop (i.toNat * te.sz)).take te.sz)) [] else ∃ v, cs[i.toNat * te.sz]? = some v ∧ K v []) : Does P o a c B K := by
  have hu := hT.arr t ti m e ht hk
  obtain ⟨vs, hv, hr⟩ : ∃ vs : Array Value, a.eval x = .agg vs ∧ RepL c false cs vs.toList := by
    generalize a.eval x = v at hx
    cases hx with
    | agg _ _ vs h1 h2 => exact ⟨vs, rfl, repL_of h1 h2⟩
  have hex : execOp a.eval o = (do pure (.value (← Instr.index t (.agg vs) (.int k i)))) := by simp only [execOp, hop, hv, hi]
  have hidx : ∀ {r : Value}, (part e vs (i.toNat * te.sz)).run P c.w = .ok r c.w → (Instr.index t (.agg vs) (.int k i)).run P c.w = .ok r c.w := fun hp => by
    simp only [Instr.index, asIntOf, Sem.run_bind, Sem.run_pure, Result.andThen_ok, run_underlying hu, h0, h1, and_self, if_true, sizeOf_run hT hte, hp]
  split at h
  · rename_i hag
    obtain ⟨hl, hK⟩ := h
    obtain ⟨d, hd, hd'⟩ := agg_of hT hte hag
    refine does_sem (v := .agg (vs.extract (i.toNat * te.sz) (i.toNat * te.sz + te.sz))) hex (hidx (by
      simp only [part, Sem.run_bind, isAgg_run hd, hd', Result.andThen_ok, if_true, sizeOf_run hT hte, Sem.run_pure])) (.agg false _ _ ?_ fun j p v hp hv => ?_) hK hok
    · have := hr.1
      simp at this ⊢
      omega
    · have hj : j < te.sz := by
        rcases Nat.lt_or_ge j te.sz with h | h
        · exact h
        · rw [List.getElem?_eq_none (by simp; omega)] at hp; cases hp
      rw [List.getElem?_take_of_lt hj, List.getElem?_drop] at hp
      refine hr.2 _ p v hp ?_
      rw [Array.getElem?_extract] at hv
      split at hv
      · rw [Array.getElem?_toList]; exact hv
      · cases hv
  · rename_i hag
    obtain ⟨v, hc, hK⟩ := h
    obtain ⟨d, hd, hd', _⟩ := plain_of hT hte (by simpa using hag)
    have hlt : i.toNat * te.sz < vs.toList.length := by
      rw [← hr.1]
      exact (List.getElem?_eq_some_iff.1 hc).1
    have e1 : vs.toList[i.toNat * te.sz]? = some vs.toList[i.toNat * te.sz] := List.getElem?_eq_getElem hlt
    refine does_sem (v := vs.toList[i.toNat * te.sz]) hex (hidx (by
      simp only [part, Sem.run_bind, isAgg_run hd, hd', Result.andThen_ok, Bool.false_eq_true, if_false]
      rw [Array.getElem?_toList] at e1
      rw [e1]
      rfl)) (hr.2 _ _ _ hc e1) hK hok

theorem sl0_run (hT : TyOk P T) {t e : TypeId} {tt te : TI} (ht : T t = some tt) (hk : tt.k = .slice e) (hte : T e = some te) (A : Option Addr) (m cp : Nat) (w : World) : (Instr.sliceAt t (.slice A m cp) none (some (.int .i64 0)) (some (.int .i64 0))).run P w = .ok (.slice A 0 0) w := by
  have hu := (hT.slice t tt e ht hk).1
  simp [Instr.sliceAt, run_underlying hu, Instr.slice, Instr.sliceBounds, Instr.sliceBound, asIntOf, sizeOf_run hT hte]

theorem does_sl0 (hT : TyOk P T) (hok : HeapOk c B) {t e : TypeId} {x h m : Operand} (hop : o.op = .slice t x none (some h) (some m)) {tt te : TI} (ht : T t = some tt) (hk : tt.k = .slice e) (hte : T e = some te) {p : PV} (hx : Rep c false p (a.eval x)) (hh : a.eval h = .int .i64 0) (hm : a.eval m = .int .i64 0)
    (hs : sl0 c.H p fun v => K v []) : Does P o a c B K := by
  have hex : ∀ A m cp, a.eval x = .slice A m cp → execOp a.eval o = (do pure (.value (← Instr.sliceAt t (.slice A m cp) none (some (.int .i64 0)) (some (.int .i64 0))))) := fun A m cp hv => by simp only [execOp, hop, hv, Option.map_some, Option.map_none, hh, hm]
  have z : ∀ cs : Cells, (cs.sub 0 0).len = 0 := fun cs => by cases cs <;> simp [Cells.sub, Cells.len]
  cases p <;> try (exact hs.elim)
  case ro cs =>
    rcases ro_at hx with ⟨_, A, cp, hv⟩ | ⟨b, off, cp, hv, _⟩
    · exact does_sem (hex _ _ _ hv) (sl0_run hT ht hk hte _ _ _ c.w) (.nil false _ _ (z cs)) hs hok
    · exact does_sem (hex _ _ _ hv) (sl0_run hT ht hk hte _ _ _ c.w) (.nil false _ _ (z cs)) hs hok
  case nil cs =>
    obtain ⟨A, hv, h0⟩ : ∃ A, a.eval x = .slice A 0 0 ∧ cs.len = 0 := by
      generalize a.eval x = v at hx
      cases hx
      exact ⟨_, rfl, by assumption⟩
    exact does_sem (hex _ _ _ hv) (sl0_run hT ht hk hte _ _ _ c.w) (.nil false _ _ h0) hs hok
  case sl id off n tot =>
    unfold sl0 at hs
    dsimp only at hs
    split at hs
    · cases hx with
      | sl _ _ _ _ _ ha hsh hkk =>
        obtain ⟨A, cp, hv, _⟩ := hsh
        exact does_sem (hex _ _ _ hv) (sl0_run hT ht hk hte _ _ _ c.w) (.nil false _ _ (z _)) hs hok
    · exact hs.elim

def PV.slLen : PV → Option Nat
  | .ro cs => some cs.len
  | .nil _ => some 0
  | .sl _ _ n _ => some n
  | .asl _ _ n => some n
  | _ => none
theorem slice_shape {p : PV} {v : Value} (h : Rep c false p v) {n : Nat} (hn : p.slLen = some n) : ∃ A cp, v = .slice A n cp := by
  cases h <;> cases hn
  · exact ⟨_, _, rfl⟩
  · rename_i cs A cp h
    exact ⟨A, cp, by rw [h]⟩
  · exact ⟨_, _, rfl⟩
  all_goals
    rename_i hs _
    obtain ⟨A, cp, h, _⟩ := hs
    exact ⟨A, cp, h⟩

theorem does_blt (hok : HeapOk c B) {cl : Call} (hop : o.op = .call cl) {b : Builtin} (hcl : cl.callee = .builtin b) {s : Sem Value} (hs : ∀ cs, builtin b cl.argTypes o.type cs (cl.args.map a.eval) = (do pure (.value (← s)))) {v : Value} {pv : PV} (hr : s.run P c.w = .ok v c.w) (hp : Rep c false pv v) (hK : K pv []) : Does P o a c B K := by
  refine does_val (v := v) ?_ hp hK hok
  simp only [execOp, hop, resolve, hcl, Sem.run_bind, Sem.run_pure, Result.andThen_ok, invoke]
  rw [hs]
  simp [hr]
end Go.Pv
