import Derived.Test.YtgheplondkoedaaPvs
namespace Go.Pv
set_option linter.unusedVariables false
set_option linter.unusedSimpArgs false
open Go Go.RowKit
variable {P : Program} {T : Ty} {nt : Nat}

/-! ### Regions whose order is drawn: one walk of the text's order serves every order, where what is not ordered does not meet -/
def tmps1 : Operand → List Nat
  | .tmp t => [t]
  | _ => []
def looks (ops : List Oper) (o : Oper) : List Nat := (opnds o.op).flatMap tmps1 ++ (match o.guard with
  | some (j, _) => match (ops[j]?).bind (·.dst) with | some d => [d] | none => []
  | none => [])

theorem evu_congr {tm tm' : Nat → PV} {l : List Operand} (h : ∀ t ∈ l.flatMap tmps1, tm t = tm' t) (t : TypeId) : ∀ x ∈ l, evu T tm t x = evu T tm' t x := by
  intro x hx
  cases x with
  | tmp i =>
    have := h i (List.mem_flatMap.2 ⟨_, hx, by simp [tmps1]⟩)
    simp only [evu, ev, this]
  | const v => rfl
  | func f => rfl
  | global g => rfl
theorem need_congr {tm tm' : Nat → PV} {b : Bool} : ∀ {l : List Operand}, (∀ t ∈ l.flatMap tmps1, tm t = tm' t) → need tm b l = need tm' b l
  | [], _ => rfl
  | x :: l, h => by
    have ih := need_congr (b := b) (l := l) fun t ht => h t (by rw [List.flatMap_cons]; exact List.mem_append_right _ ht)
    cases x with
    | tmp i => simp only [need]; rw [h i (by simp [tmps1]), ih]
    | const v => simp only [need]; exact ih
    | func f => simp only [need]; exact ih
    | global g => simp only [need]; exact ih
theorem step1_congr {o : Oper} {tm tm' : Nat → PV} {H : Nat → Option Blk} {n : Nat} {b : Bool} {K : PV → Eff → Prop} (h : ∀ t ∈ (opnds o.op).flatMap tmps1, tm t = tm' t) : step1 P T o tm H n b K = step1 P T o tm' H n b K := by
  have gen : opv P T o (evu T tm) H n K = opv P T o (evu T tm') H n K := opv_congr fun t x hx => evu_congr h t x hx
  unfold step1
  split
  · rename_i x y z hop
    rw [hop] at h
    simp only [opnds] at h
    have hx := fun t => evu_congr (T := T) h t x (by simp)
    have hy := fun t => evu_congr (T := T) h t y (by simp)
    have hz := fun t => evu_congr (T := T) h t z (by simp)
    rw [hx, hy, hz, gen, need_congr h]
    have n1 : ∀ b, need tm b [x] = need tm' b [x] := fun b => need_congr fun t ht => h t (by simp at ht ⊢; exact .inl ht)
    have n2 : ∀ b, need tm b [y] = need tm' b [y] := fun b => need_congr fun t ht => h t (by simp at ht ⊢; exact .inr (.inl ht))
    have n3 : ∀ b, need tm b [z] = need tm' b [z] := fun b => need_congr fun t ht => h t (by simp at ht ⊢; exact .inr (.inr ht))
    simp only [n1, n2, n3]
  · rw [gen, need_congr h]
theorem step1_loc {o : Oper} {tm : Nat → PV} {H H' : Nat → Option Blk} {n : Nat} {b : Bool} {K : PV → Eff → Prop} (h : ∀ id ∈ rdO T (evu T tm) o.op, H id = H' id) : step1 P T o tm H n b K = step1 P T o tm H' n b K := by
  unfold step1
  simp only [opv_loc h]
theorem rdO_congr {ρ ρ' : TypeId → Operand → PV} {op : Op} (h : ∀ t, ∀ x ∈ opnds op, ρ t x = ρ' t x) : rdO T ρ op = rdO T ρ' op := by
  cases op <;> simp only [opnds] at h <;> simp only [rdO]
  case load t x => rw [h 0 x (by simp)]
  case nilCheck x => rw [h 0 x (by simp)]
  case fieldAddr t x f => rw [h 0 x (by simp)]
  case store t x y => rw [h 0 x (by simp), h t y (by simp)]
  case indexAddr t x i => rw [h t x (by simp), h 0 x (by simp)]
  case slice t x lo hi mx => rw [h t x (by simp), h 0 x (by simp)]
  case convert s d x => rw [h s x (by simp)]
  case buildSlice t l ps =>
    congr 1
    have : ∀ (L : List (Nat × Operand)), (∀ t, ∀ x ∈ L.map (·.2), ρ t x = ρ' t x) → (L.flatMap fun p => (ρ (ety T t) p.2).ids) = L.flatMap fun p => (ρ' (ety T t) p.2).ids := by
      intro L
      induction L with
      | nil => intro _; rfl
      | cons p L ih =>
        intro hL
        rw [List.flatMap_cons, List.flatMap_cons, hL _ p.2 (by simp), ih fun t x hx => hL t x (by simp at hx ⊢; exact .inr hx)]
    exact this ps.toList h
  case call c =>
    cases hc : c.callee with
    | value f =>
      simp only [hc] at h ⊢
      rw [h 0 f (by simp), argsP_congr c.args.toList c.argTypes.toList fun t x hx => h t x (by simp [hx])]
    | builtin b =>
      simp only [hc] at h ⊢
      cases b <;> simp only
      rw [argsP_congr c.args.toList c.argTypes.toList fun t x hx => h t x (by simpa using hx)]
    | invoke r m => rfl
theorem gd_congr {ops : List Oper} {o : Oper} {tm tm' : Nat → PV} {K : Bool → Prop} (h : ∀ t ∈ looks ops o, tm t = tm' t) : gd ops o tm K = gd ops o tm' K := by
  unfold gd
  split
  · rfl
  · rename_i j want he
    split
    · rename_i d hd
      rw [h d (by simp [looks, he, hd])]
    · rfl

structure Rec where
  b : Bool
  raw : PV
  pv : PV
  eff : Eff
  rd : List Nat
instance : Inhabited Rec := ⟨⟨true, .any, .any, [], []⟩⟩
def putF (nt : Nat) (tm : Nat → PV) (d : Option Nat) (v : PV) : Nat → PV := fun t => if d = some t ∧ t < nt then v else tm t
theorem getT_putT (l : List (Nat × PV)) (d : Option Nat) (v : PV) : getT (putT nt l d v) = putF nt (getT l) d v := by
  funext t
  cases d with
  | none => simp [putT, putF]
  | some d =>
    simp only [putT, putF]
    by_cases hd : d < nt
    · rw [if_pos hd]
      simp only [getT]
      by_cases ht : d = t
      · subst ht; simp [hd]
      · rw [if_neg ht, if_neg (by simp [ht])]
    · rw [if_neg hd, if_neg]
      rintro ⟨h, h'⟩
      cases h
      exact hd h'
/-- The operation, in this state, does what is written down. -/
structure StepR (P : Program) (T : Ty) (ops : List Oper) (o : Oper) (n : Nat) (r : Rec) (tm : Nat → PV) (H : Nat → Option Blk) : Prop where
  g : gd ops o tm fun b => b = r.b
  run : r.b = true → step1 P T o tm H n true fun pv eff => pv = r.raw ∧ eff = r.eff
  no : r.b = false → r.eff = []
  pv : r.pv = r.raw ∧ r.b = true ∨ r.pv = .opt r.b r.raw
  rd : rdO T (evu T tm) o.op = r.rd

structure Ind (ops : List Oper) (oi oj : Oper) (ri rj : Rec) : Prop where
  t1 : ∀ d, oi.dst = some d → d ∉ looks ops oj
  t2 : ∀ d, oi.dst = some d → oj.dst ≠ some d
  t3 : ∀ d, oj.dst = some d → d ∉ looks ops oi
  h1 : ∀ p ∈ ri.eff, p.1 ∉ rj.rd ∧ ∀ q ∈ rj.eff, p.1 ≠ q.1
  h2 : ∀ q ∈ rj.eff, q.1 ∉ ri.rd

theorem eff_comm {e f : Eff} (h : ∀ p ∈ e, ∀ q ∈ f, p.1 ≠ q.1) (H : Nat → Option Blk) : e.on (f.on H) = f.on (e.on H) := by
  funext id
  by_cases hf : ∃ q ∈ f, q.1 = id
  · obtain ⟨q, hq, rfl⟩ := hf
    rw [eff_off (e := e) fun p hp => h p hp q hq]
    exact eff_same (eff_off fun p hp => h p hp q hq).symm
  · have hf' : ∀ q ∈ f, q.1 ≠ id := fun q hq e => hf ⟨q, hq, e⟩
    rw [eff_off (e := f) (H := e.on H) hf']
    exact eff_same (eff_off hf')
theorem putF_comm {tm : Nat → PV} {d d' : Option Nat} {v v' : PV} (h : ∀ x, d = some x → d' ≠ some x) : putF nt (putF nt tm d v) d' v' = putF nt (putF nt tm d' v') d v := by
  funext t
  simp only [putF]
  by_cases h1 : d = some t ∧ t < nt
  · have h2 : ¬ (d' = some t ∧ t < nt) := fun h2 => h t h1.1 h2.1
    rw [if_pos h1, if_neg h2, if_pos h1]
  · rw [if_neg h1]
    by_cases h2 : d' = some t ∧ t < nt
    · rw [if_pos h2, if_neg h1]
    · rw [if_neg h2, if_neg h1]
theorem putF_off {tm : Nat → PV} {d : Option Nat} {v : PV} {t : Nat} (h : d ≠ some t) : putF nt tm d v t = tm t := if_neg (fun h' => h h'.1)

theorem StepR.congr {ops : List Oper} {o : Oper} {n : Nat} {r : Rec} {tm tm' : Nat → PV} {H H' : Nat → Option Blk} (ht : ∀ t ∈ looks ops o, tm t = tm' t) (hh : ∀ id ∈ r.rd, H id = H' id) (h : StepR P T ops o n r tm H) : StepR P T ops o n r tm' H' := by
  have h1 : ∀ t ∈ (opnds o.op).flatMap tmps1, tm t = tm' t := fun t h => ht t (List.mem_append_left _ h)
  have h2 : rdO T (evu T tm') o.op = r.rd := by rw [← h.rd]; exact rdO_congr fun t x hx => (evu_congr h1 t x hx).symm
  refine ⟨by rw [← gd_congr ht]; exact h.g, fun hb => ?_, h.no, h.pv, h2⟩
  rw [← step1_loc (H := H) (fun id hi => hh id (by rw [← h2]; exact hi)), ← step1_congr h1]
  exact h.run hb

theorem commute {ops : List Oper} {oi oj : Oper} {ni nj : Nat} {ri rj : Rec} {tm : Nat → PV} {H : Nat → Option Blk} (hi : StepR P T ops oi ni ri tm H) (hj : StepR P T ops oj nj rj (putF nt tm oi.dst ri.pv) (ri.eff.on H)) (hd : Ind ops oi oj ri rj) :
    StepR P T ops oj nj rj tm H ∧ StepR P T ops oi ni ri (putF nt tm oj.dst rj.pv) (rj.eff.on H) ∧ putF nt (putF nt tm oi.dst ri.pv) oj.dst rj.pv = putF nt (putF nt tm oj.dst rj.pv) oi.dst ri.pv ∧ rj.eff.on (ri.eff.on H) = ri.eff.on (rj.eff.on H) := by
  refine ⟨hj.congr (fun t ht => putF_off fun e => hd.t1 t e ht) (fun id hid => eff_off fun p hp e => (hd.h1 p hp).1 (e ▸ hid)), hi.congr (fun t ht => (putF_off fun e => hd.t3 t e ht).symm) (fun id hid => (eff_off fun p hp e => hd.h2 p hp (e ▸ hid)).symm), putF_comm hd.t2, ?_⟩
  exact eff_comm (fun p hp q hq e => (hd.h1 q hq).2 p hp e.symm) H

/-- Whatever order is picked. -/
def anyA (P : Program) (T : Ty) (nt : Nat) (ops : Array Oper) (n0 : Nat) (recs : Nat → Rec) (Qf : (Nat → PV) → (Nat → Option Blk) → Prop) : Nat → Array Bool → (Nat → PV) → (Nat → Option Blk) → Prop
  | 0, listed, tm, H => Region.ready .any ops listed = [] ∧ Qf tm H
  | f + 1, listed, tm, H => (Region.ready .any ops listed = [] → Qf tm H) ∧ ∀ i ∈ Region.ready .any ops listed, ∀ o, ops[i]? = some o → StepR P T ops.toList o (n0 + 8 * i) (recs i) tm H ∧
      anyA P T nt ops n0 recs Qf f (listed.setIfInBounds i true) (putF nt tm o.dst (recs i).pv) ((recs i).eff.on H)

/-- C: of each operation those that come before it, as bits. -/
structure Clo (ops : Array Oper) (C : Nat → Nat → Bool) : Prop where
  step : ∀ j o i, ops[j]? = some o → C j i = true → ∃ e ∈ o.after, Region.binds .any e = true ∧ (e.on = i ∨ C e.on i = true)
  back : ∀ j o, ops[j]? = some o → ∀ e ∈ o.after, Region.binds .any e = true → e.on < j
def Closed (ops : Array Oper) (listed : Array Bool) : Prop := ∀ j o, ops[j]? = some o → listed.getD j false = true → ∀ e ∈ o.after, Region.binds .any e = true → listed.getD e.on false = true
theorem clo_listed {ops : Array Oper} {C : Nat → Nat → Bool} (hC : Clo ops C) {listed : Array Bool} (hcl : Closed ops listed) : ∀ (m j i : Nat), j < m → listed.getD j false = true → (∃ o, ops[j]? = some o) → C j i = true → i < ops.size → listed.getD i false = true
  | 0, j, i, h, _, _, _, _ => by omega
  | m + 1, j, i, h, hl, ⟨o, ho⟩, hc, hi => by
    obtain ⟨e, he, hb, hor⟩ := hC.step j o i ho hc
    have h1 := hcl j o ho hl e he hb
    have h2 := hC.back j o ho e he hb
    rcases hor with rfl | hor
    · exact h1
    · have hlt : e.on < ops.size := by have := (Array.getElem?_eq_some_iff.1 ho).1; omega
      exact clo_listed hC hcl m e.on i (by omega) h1 ⟨ops[e.on], Array.getElem?_eq_getElem hlt⟩ hor hi
theorem clo_ready {ops : Array Oper} {C : Nat → Nat → Bool} (hC : Clo ops C) {listed : Array Bool} (hcl : Closed ops listed) {j i : Nat} (hj : j ∈ Region.ready .any ops listed) (hc : C j i = true) (hi : i < ops.size) : listed.getD i false = true := by
  obtain ⟨_, o, ho, hall⟩ := mem_ready.1 hj
  obtain ⟨e, he, hb, hor⟩ := hC.step j o i ho hc
  have h1 := hall e he hb
  rcases hor with rfl | hor
  · exact h1
  · have h2 := hC.back j o ho e he hb
    have hlt : e.on < ops.size := by have := (Array.getElem?_eq_some_iff.1 ho).1; omega
    exact clo_listed hC hcl (e.on + 1) e.on i (by omega) h1 ⟨ops[e.on], Array.getElem?_eq_getElem hlt⟩ hor hi
theorem closed_set {ops : Array Oper} {listed : Array Bool} (hcl : Closed ops listed) {j : Nat} (hj : j ∈ Region.ready .any ops listed) : Closed ops (listed.setIfInBounds j true) := by
  intro k o ho hk e he hb
  refine getD_set_true ?_
  by_cases hkj : j = k
  · subst hkj
    obtain ⟨_, o', ho', hall⟩ := mem_ready.1 hj
    rw [ho] at ho'
    cases ho'
    exact hall e he hb
  · rw [getD_set_ne false hkj] at hk
    exact hcl k o ho hk e he hb

theorem anyA_first {ops : Array Oper} {n0 : Nat} {recs : Nat → Rec} {Qf : (Nat → PV) → (Nat → Option Blk) → Prop} {C : Nat → Nat → Bool} (hC : Clo ops C) {i : Nat} {oi : Oper} (hi : ops[i]? = some oi) :
    ∀ (f : Nat) (listed : Array Bool) (tm : Nat → PV) (H : Nat → Option Blk), Closed ops listed → (∀ j oj, ops[j]? = some oj → j ≠ i → listed.getD j true = false → C j i = false → Ind ops.toList oi oj (recs i) (recs j)) →
      i ∈ Region.ready .any ops listed → StepR P T ops.toList oi (n0 + 8 * i) (recs i) tm H → anyA P T nt ops n0 recs Qf f (listed.setIfInBounds i true) (putF nt tm oi.dst (recs i).pv) ((recs i).eff.on H) →
      anyA P T nt ops n0 recs Qf (f + 1) listed tm H
  | 0, listed, tm, H, hcl, hind, hr, hs, hn => by
    refine ⟨(fun h => by rw [h] at hr; cases hr), fun j hj o ho => ?_⟩
    by_cases hji : j = i
    · subst hji
      rw [hi] at ho
      cases ho
      exact ⟨hs, hn⟩
    · have := ready_mono hj hji
      rw [hn.1] at this
      cases this
  | f + 1, listed, tm, H, hcl, hind, hr, hs, hn => by
    refine ⟨(fun h => by rw [h] at hr; cases hr), fun j hj o ho => ?_⟩
    by_cases hji : j = i
    · subst hji
      rw [hi] at ho
      cases ho
      exact ⟨hs, hn⟩
    · obtain ⟨hsj, hnj⟩ := hn.2 j (ready_mono hj hji) o ho
      have hiu : listed.getD i false = false := by
        have h1 := (mem_ready.1 hr).1
        cases h2 : listed.getD i false with
        | false => rfl
        | true =>
          rcases Nat.lt_or_ge i listed.size with h | h
          · simp [h] at h1 h2; rw [h1] at h2; cases h2
          · simp [Array.getElem?_eq_none h] at h2
      have hnc : C j i = false := by
        cases hc : C j i with
        | false => rfl
        | true => rw [clo_ready hC hcl hj hc (Array.getElem?_eq_some_iff.1 hi).1] at hiu; cases hiu
      obtain ⟨c1, c2, c3, c4⟩ := commute hs hsj (hind j o ho hji (mem_ready.1 hj).1 hnc)
      refine ⟨c1, anyA_first hC hi f _ _ _ (closed_set hcl hj) (fun k ok hk hki hun hno => ?_) (ready_mono hr (Ne.symm hji)) c2 ?_⟩
      · refine hind k ok hk hki ?_ hno
        by_cases hjk : j = k
        · subst hjk; exact (mem_ready.1 hj).1
        · rw [getD_set_ne true hjk] at hun; exact hun
      · rw [Array.setIfInBounds_comm _ _ hji, ← c3, ← c4]
        exact hnj

/-! ### From the abstract to the machine -/
theorem wpOp_of {ops : Array Oper} {i : Nat} {o : Oper} {Q : Exit → Act → World → Prop} {K : Act → World → Prop} {a : Act} {w : World} (ho : ops[i]? = some o)
    (h1 : Region.wanted o (yielded ops a.tmps) = true → o.wp P a w K Q) (h2 : Region.wanted o (yielded ops a.tmps) = false → K (a.put o.dst undef) w) : wpOp P ops Q i K a w := by
  unfold wpOp
  simp only [ho]
  split
  · rename_i h; exact .inl (h1 h)
  · rename_i h; exact h2 (by simpa using h)

theorem put_repF {c : Cx} {a : Act} {tm : Nat → PV} (h : ∀ t, Rep c false (tm t) (a.tmps.getD t undef)) (hs : a.tmps.size = nt) (d : Option Nat) {pv : PV} {v : Value} (hp : Rep c false pv v) (t : Nat) : Rep c false (putF nt tm d pv t) ((a.put d v).tmps.getD t undef) := by
  simp only [putF]
  by_cases ht : d = some t ∧ t < nt
  · rw [if_pos ht]
    obtain ⟨rfl, hlt⟩ := ht
    have hd' : t < a.tmps.size := by omega
    simp [Act.put, hd']
    exact hp
  · rw [if_neg ht]
    have h0 := h t
    cases d with
    | none => exact h0
    | some d =>
      by_cases hd : d = t
      · subst hd
        have hge : nt ≤ d := by
          rcases Nat.lt_or_ge d nt with h | h
          · exact absurd ⟨rfl, h⟩ ht
          · exact h
        have : a.tmps.setIfInBounds d v = a.tmps := Array.setIfInBounds_eq_of_size_le (by omega)
        simp only [Act.put, this]
        exact h0
      · simp only [Act.put, Array.getD_eq_getD_getElem?] at h0 ⊢
        rw [Array.getElem?_setIfInBounds_ne hd]
        exact h0

theorem anyA_sound (hT : TyOk P T) {m0 : Nat} {S : Fr m0} {B : Nat} {W0 : World} {ops : Array Oper} {n0 : Nat} {recs : Nat → Rec} {Qf : (Nat → PV) → (Nat → Option Blk) → Prop} {C : Nat → Nat → Bool} (hC : Clo ops C) {Q : Exit → Act → World → Prop}
    (hE : ∀ i, i < ops.size → ∀ p ∈ (recs i).eff, p.1 < n0 + 8 * ops.size ∧ ∀ k, k < ops.size → k ≠ i → n0 + 8 * k ≤ p.1 → p.1 < n0 + 8 * k + 8 → C i k = true)
    (hQ : ∀ tm H (c : Cx) a, Qf tm H → c.H = H → HeapOk c B → (∀ id, n0 + 8 * ops.size ≤ id → ¬ c.A id) → (∀ t, Rep c false (tm t) (a.tmps.getD t undef)) → a.tmps.size = nt → a.defers = [] → Below B W0 c.w → Keep S B W0 c → Q .normal a c.w) :
    ∀ (f : Nat) (listed : Array Bool) (tm : Nat → PV) (H : Nat → Option Blk) (a : Act) (c : Cx), anyA P T nt ops n0 recs Qf f listed tm H → Closed ops listed → c.H = H → HeapOk c B → (∀ k, k < ops.size → listed.getD k true = false → ∀ q, q < 8 → ¬ c.A (n0 + 8 * k + q)) → (∀ id, n0 + 8 * ops.size ≤ id → ¬ c.A id) →
      (∀ t, Rep c false (tm t) (a.tmps.getD t undef)) → a.tmps.size = nt → a.defers = [] → Below B W0 c.w → Keep S B W0 c → wpAny P .any ops Q f listed a c.w
  | 0, listed, tm, H, a, c, h, _, h1, h2, _, h4, h5, h6, h7, h8, h9 => ⟨h.1, hQ tm H c a h.2 h1 h2 h4 h5 h6 h7 h8 h9⟩
  | f + 1, listed, tm, H, a, c, h, hcl, hH, hok, hf, hf2, hrep, hsz, hdef, hbel, hS => by
    refine ⟨fun h0 => hQ tm H c a (h.1 h0) hH hok hf2 hrep hsz hdef hbel hS, fun i hi => ?_⟩
    obtain ⟨hun, o, ho, hall⟩ := mem_ready.1 hi
    have hlt : i < ops.size := (Array.getElem?_eq_some_iff.1 ho).1
    obtain ⟨hst, hnext⟩ := h.2 i hi o ho
    obtain ⟨b, hw, hb, _⟩ := gd_ok hrep hst.g
    have hfresh := hf i hlt hun
    refine wpOp_of ho (fun hwt => ?_) (fun hwf => ?_)
    · rw [hw] at hwt
      subst hwt
      have hrun := hst.run hb.symm
      rw [← hH] at hrun
      refine step1_ok hT hok hfresh hrep hrun _ _ fun pv eff v c' hk hp hpost => ?_
      obtain ⟨rfl, rfl⟩ := hk
      refine anyA_sound hT hC hE hQ f _ _ _ _ c' hnext (closed_set hcl hi) (by rw [hpost.H, hH]) hpost.heap (fun k hk hku q hq hA => ?_) (fun id hid hA => ?_) (fun t => put_repF (fun t => (hrep t).mono hpost.le) hsz o.dst ?_ t) (by rw [put_size]; exact hsz) (by rw [put_defers]; exact hdef) (hbel.trans hpost.below) (hS.post hpost)
      · have hki : k ≠ i := by
          intro e
          subst e
          by_cases hs : k < listed.size
          · simp [hs] at hku
          · simp [Array.getElem?_eq_none (Nat.not_lt.1 hs)] at hku
        rw [getD_set_ne true (Ne.symm hki)] at hku
        rcases (hpost.A _).1 hA with h1 | h1
        · exact hf k hk hku q hq h1
        · obtain ⟨p, hp, he⟩ := List.mem_map.1 h1
          have hc := (hE i hlt p hp).2 k hk hki (by omega) (by omega)
          have := clo_ready hC hcl hi hc hk
          rcases Nat.lt_or_ge k listed.size with h | h
          · simp [h] at hku this; rw [hku] at this; cases this
          · simp [Array.getElem?_eq_none h] at this
      · rcases (hpost.A _).1 hA with h1 | h1
        · exact hf2 id hid h1
        · obtain ⟨p, hp, he⟩ := List.mem_map.1 h1
          have := (hE i hlt p hp).1
          omega
      · rcases hst.pv with ⟨h1, _⟩ | h1
        · rw [h1]; exact hp
        · rw [h1, ← hb]
          exact .opt _ _ _ _ (fun _ => hp) (fun h => by cases h)
    · rw [hw] at hwf
      subst hwf
      have heff := hst.no hb.symm
      rw [heff] at hnext
      refine anyA_sound hT hC hE hQ f _ _ _ _ c hnext (closed_set hcl hi) hH hok (fun k hk hku => hf k hk ?_) hf2 (fun t => put_repF hrep hsz o.dst ?_ t) (by rw [put_size]; exact hsz) (by rw [put_defers]; exact hdef) hbel hS
      · have hki : k ≠ i := by
          intro e
          subst e
          by_cases hs : k < listed.size
          · simp [hs] at hku
          · simp [Array.getElem?_eq_none (Nat.not_lt.1 hs)] at hku
        rwa [getD_set_ne true (Ne.symm hki)] at hku
      · rcases hst.pv with ⟨_, h1⟩ | h1
        · rw [← hb] at h1; cases h1
        · rw [h1, ← hb]
          exact .opt _ _ _ _ (fun h => by cases h) (fun _ => rfl)
end Go.Pv
