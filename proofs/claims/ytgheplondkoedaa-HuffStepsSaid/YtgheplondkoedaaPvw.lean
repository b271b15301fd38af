import Derived.Test.YtgheplondkoedaaPvu
namespace Go.Pv
set_option linter.unusedVariables false
set_option linter.unusedSimpArgs false
open Go Go.RowKit
variable {P : Program} {T : Ty} {nt n0 : Nat}

theorem step1_det {o : Oper} {tm : Nat → PV} {H : Nat → Option Blk} {n : Nat} {b : Bool} : Det2 (step1 P T o tm H n b) := fun K h => by
  unfold step1 at h ⊢
  split at h
  · split at h
    · exact ⟨_, _, ⟨h.1, h.2.1, h.2.2.1, rfl, rfl⟩, h.2.2.2⟩
    · obtain ⟨x, y, h1, h2⟩ := opv_det K h.2
      exact ⟨x, y, ⟨h.1, h1⟩, h2⟩
  · obtain ⟨x, y, h1, h2⟩ := opv_det K h.2
    exact ⟨x, y, ⟨h.1, h1⟩, h2⟩

/-- What each operation reads and turns (the newest first). -/
abbrev Fp := List (List Nat × List Nat)
/-- A region in the order of its text. -/
def runD (P : Program) (T : Ty) (nt : Nat) (all : List Oper) : List Oper → Nat → List (Nat × PV) → List (Nat × Option Blk) → Fp → (Fp → List (Nat × PV) → List (Nat × Option Blk) → Nat → Prop) → Prop
  | [], n, tm, H, fp, K => K fp tm H n
  | o :: os, n, tm, H, fp, K => gd all o (getT tm) fun b => match o.guard with
    | none => step1 P T o (getT tm) (getH H) n true fun pv eff => runD P T nt all os (n + 8) (putT nt tm o.dst pv) (onL eff H) ((rdO T (evu T (getT tm)) o.op, eff.map (·.1)) :: fp) K
    | some _ => match sug T o (getT tm) (getH H) with
      | some v => (b = true → step1 P T o (getT tm) (getH H) n b fun pv eff => pv = v ∧ eff = []) ∧ runD P T nt all os (n + 8) (putT nt tm o.dst (.opt b v)) H ((rdO T (evu T (getT tm)) o.op, []) :: fp) K
      | none => ∃ v, (b = true → step1 P T o (getT tm) (getH H) n b fun pv eff => pv = v ∧ eff = []) ∧ runD P T nt all os (n + 8) (putT nt tm o.dst (.opt b v)) H ((rdO T (evu T (getT tm)) o.op, []) :: fp) K

def Rec.fp (r : Rec) : List Nat × List Nat := (r.rd, r.eff.map (·.1))
/-- One behind the other, with what each did. -/
def Chain (P : Program) (T : Ty) (nt : Nat) (all : List Oper) (Qf : (Nat → PV) → (Nat → Option Blk) → Prop) : List Oper → Nat → List Rec → (Nat → PV) → (Nat → Option Blk) → Prop
  | [], _, rs, tm, H => rs = [] ∧ Qf tm H
  | o :: os, n, rs, tm, H => ∃ r rs', rs = r :: rs' ∧ StepR P T all o n r tm H ∧ Chain P T nt all Qf os (n + 8) rs' (putF nt tm o.dst r.pv) (r.eff.on H)

theorem gd_get {ops : List Oper} {o : Oper} {tm : Nat → PV} {K : Bool → Prop} (h : gd ops o tm K) : ∃ b, K b ∧ (gd ops o tm fun b' => b' = b) ∧ (o.guard = none → b = true) := by
  unfold gd at h ⊢
  split at h
  · exact ⟨true, h, rfl, fun _ => rfl⟩
  · rename_i hg
    split at h
    · split at h
      · exact ⟨_, h, rfl, fun h => by rw [hg] at h; cases h⟩
      · exact ⟨_, h, rfl, fun h => by rw [hg] at h; cases h⟩
      · exact h.elim
    · exact h.elim

theorem runD_chain {all : List Oper} {K : Fp → List (Nat × PV) → List (Nat × Option Blk) → Nat → Prop} : ∀ (os : List Oper) (n : Nat) (tm : List (Nat × PV)) (H : List (Nat × Option Blk)) (fp : Fp), runD P T nt all os n tm H fp K →
    ∃ rs tm' H', rs.length = os.length ∧ K ((rs.map Rec.fp).reverse ++ fp) tm' H' (n + 8 * os.length) ∧ Chain P T nt all (fun t h => t = getT tm' ∧ h = getH H') os n rs (getT tm) (getH H)
  | [], n, tm, H, fp, h => ⟨[], tm, H, rfl, h, rfl, rfl, rfl⟩
  | o :: os, n, tm, H, fp, h => by
    obtain ⟨b, h1, hg, hb⟩ := gd_get h
    have joined : ∀ v, (b = true → step1 P T o (getT tm) (getH H) n b fun pv eff => pv = v ∧ eff = []) → runD P T nt all os (n + 8) (putT nt tm o.dst (.opt b v)) H ((rdO T (evu T (getT tm)) o.op, []) :: fp) K →
        ∃ rs tm' H', rs.length = (o :: os).length ∧ K ((rs.map Rec.fp).reverse ++ fp) tm' H' (n + 8 * (o :: os).length) ∧ Chain P T nt all (fun t h => t = getT tm' ∧ h = getH H') (o :: os) n rs (getT tm) (getH H) := fun v h2 h3 => by
      obtain ⟨rs, tm', H', e1, e2, e3⟩ := runD_chain os _ _ _ _ h3
      refine ⟨⟨b, v, .opt b v, [], rdO T (evu T (getT tm)) o.op⟩ :: rs, tm', H', by simp [e1], ?_, _, rs, rfl, ⟨hg, fun hb' => ?_, fun _ => rfl, .inr rfl, rfl⟩, ?_⟩
      · rw [List.map_cons, List.reverse_cons, List.append_assoc, List.length_cons, show n + 8 * (os.length + 1) = n + 8 + 8 * os.length by omega]
        exact e2
      · have hb'' : b = true := hb'
        have := h2 hb''
        rw [hb''] at this
        exact this
      · rw [getT_putT] at e3
        exact e3
    split at h1
    · rename_i hgn
      obtain rfl := hb hgn
      obtain ⟨pv, eff, h2, h3⟩ := step1_det _ h1
      obtain ⟨rs, tm', H', e1, e2, e3⟩ := runD_chain os _ _ _ _ h3
      refine ⟨⟨true, pv, pv, eff, rdO T (evu T (getT tm)) o.op⟩ :: rs, tm', H', by simp [e1], ?_, _, rs, rfl, ⟨hg, fun _ => h2, (fun h => by cases h), .inl ⟨rfl, rfl⟩, rfl⟩, ?_⟩
      · rw [List.map_cons, List.reverse_cons, List.append_assoc, List.length_cons, show n + 8 * (os.length + 1) = n + 8 + 8 * os.length by omega]
        exact e2
      · rw [getT_putT, getH_on] at e3
        exact e3
    · split at h1
      · exact joined _ h1.1 h1.2
      · obtain ⟨v, h2, h3⟩ := h1
        exact joined v h2 h3

/-! ### The checks -/
/-- What comes before an operation, as bits, out of those of the operations ahead of it. -/
def maskOf (ms : Nat → Nat) : List Edge → Nat
  | [] => 0
  | e :: es => if Region.binds .any e then (2 ^ e.on ||| ms e.on) ||| maskOf ms es else maskOf ms es
theorem maskOf_bit {ms : Nat → Nat} {i : Nat} : ∀ {es : List Edge}, (maskOf ms es).testBit i = true → ∃ e ∈ es, Region.binds .any e = true ∧ (e.on = i ∨ (ms e.on).testBit i = true)
  | [], h => by simp [maskOf] at h
  | e :: es, h => by
    unfold maskOf at h
    by_cases hb : Region.binds .any e = true
    · rw [if_pos hb, Nat.testBit_or, Nat.testBit_or, Bool.or_eq_true, Bool.or_eq_true] at h
      rcases h with (h | h) | h
      · rw [Nat.testBit_two_pow] at h
        exact ⟨e, by simp, hb, .inl (by simpa using h)⟩
      · exact ⟨e, by simp, hb, .inr h⟩
      · obtain ⟨e', h1, h2⟩ := maskOf_bit h
        exact ⟨e', List.mem_cons_of_mem _ h1, h2⟩
    · rw [if_neg hb] at h
      obtain ⟨e', h1, h2⟩ := maskOf_bit h
      exact ⟨e', List.mem_cons_of_mem _ h1, h2⟩
def masks : List Oper → List Nat → List Nat
  | [], acc => acc
  | o :: os, acc => masks os (acc ++ [maskOf (fun i => acc.getD i 0) o.after.toList])
def chkM (ms : List Nat) : List Oper → Nat → Bool
  | [], _ => true
  | o :: os, j => (ms.getD j 0 == maskOf (fun i => ms.getD i 0) o.after.toList) && (o.after.toList.all fun e => !Region.binds .any e || decide (e.on < j)) && chkM ms os (j + 1)
/-- Slots: those that are not ordered do not meet. -/
def chkT1 (all : List Oper) (ms : List Nat) (i : Nat) (oi : Oper) : List Oper → Nat → Bool
  | [], _ => true
  | oj :: os, j => ((ms.getD j 0).testBit i || (match oi.dst with | some d => !(looks all oj).contains d && !(oj.dst == some d) | none => true) && (match oj.dst with | some d => !(looks all oi).contains d | none => true)) && chkT1 all ms i oi os (j + 1)
def chkT (all : List Oper) (ms : List Nat) : List Oper → Nat → Bool
  | [], _ => true
  | o :: os, i => chkT1 all ms i o os (i + 1) && chkT all ms os (i + 1)
def disj (a b : List Nat) : Bool := a.all fun x => !b.contains x
def chkH1 (ms : List Nat) (i : Nat) (fi : List Nat × List Nat) : Fp → Nat → Bool
  | [], _ => true
  | fj :: fs, j => ((ms.getD j 0).testBit i || disj fi.2 fj.1 && disj fi.2 fj.2 && disj fj.2 fi.1) && chkH1 ms i fi fs (j + 1)
def chkH (ms : List Nat) : Fp → Nat → Bool
  | [], _ => true
  | f :: fs, i => chkH1 ms i f fs (i + 1) && chkH ms fs (i + 1)
def chkE (ms : List Nat) (n0 N : Nat) : Fp → Nat → Bool
  | [], _ => true
  | f :: fs, i => (f.2.all fun x => decide (x < n0) || (decide (n0 + 8 * i ≤ x) && decide (x < n0 + 8 * i + 8)) || (decide (x < n0 + 8 * N) && (ms.getD i 0).testBit ((x - n0) / 8))) && chkE ms n0 N fs (i + 1)

theorem chkM_at {ms : List Nat} : ∀ {os : List Oper} {k : Nat}, chkM ms os k = true → ∀ j o, os[j]? = some o → ms.getD (k + j) 0 = maskOf (fun i => ms.getD i 0) o.after.toList ∧ ∀ e ∈ o.after, Region.binds .any e = true → e.on < k + j
  | [], k, _, j, o, h => by simp at h
  | p :: os, k, hc, j, o, h => by
    simp only [chkM, Bool.and_eq_true, beq_iff_eq, List.all_eq_true] at hc
    obtain ⟨⟨h1, h2⟩, h3⟩ := hc
    cases j with
    | zero =>
      simp at h
      subst h
      refine ⟨h1, fun e he hb => ?_⟩
      have := h2 e (by simpa using he)
      simpa [hb] using this
    | succ j =>
      have := chkM_at h3 j o (by simpa using h)
      rw [show k + (j + 1) = k + 1 + j by omega]
      exact this
theorem clo_of {l : List Oper} {ms : List Nat} (h : chkM ms l 0 = true) : Clo l.toArray fun j i => (ms.getD j 0).testBit i := by
  refine ⟨fun j o i ho hc => ?_, fun j o ho e he hb => ?_⟩
  · have := (chkM_at h j o (by simpa using ho)).1
    rw [Nat.zero_add] at this
    rw [this] at hc
    obtain ⟨e, h1, h2⟩ := maskOf_bit hc
    exact ⟨e, by simpa using h1, h2⟩
  · have := (chkM_at h j o (by simpa using ho)).2 e he hb
    omega

theorem chkT1_at {all : List Oper} {ms : List Nat} {i : Nat} {oi : Oper} : ∀ {os : List Oper} {k : Nat}, chkT1 all ms i oi os k = true → ∀ j o, os[j]? = some o → (ms.getD (k + j) 0).testBit i = false →
    (∀ d, oi.dst = some d → d ∉ looks all o) ∧ (∀ d, oi.dst = some d → o.dst ≠ some d) ∧ (∀ d, o.dst = some d → d ∉ looks all oi)
  | [], k, _, j, o, h, _ => by simp at h
  | p :: os, k, hc, j, o, h, hm => by
    simp only [chkT1, Bool.and_eq_true] at hc
    obtain ⟨h1, h3⟩ := hc
    cases j with
    | zero =>
      simp at h
      subst h
      rw [Nat.add_zero] at hm
      rw [hm, Bool.false_or, Bool.and_eq_true] at h1
      obtain ⟨h1, h2⟩ := h1
      refine ⟨fun d hd => ?_, fun d hd => ?_, fun d hd => ?_⟩
      · rw [hd] at h1; simp at h1; exact h1.1
      · rw [hd] at h1; simp at h1; exact h1.2
      · rw [hd] at h2; simpa using h2
    | succ j => exact chkT1_at h3 j o (by simpa using h) (by rw [show k + 1 + j = k + (j + 1) by omega]; exact hm)
theorem chkT_at {all : List Oper} {ms : List Nat} : ∀ {os : List Oper} {k : Nat}, chkT all ms os k = true → ∀ i oi j oj, os[i]? = some oi → os[j]? = some oj → i < j → (ms.getD (k + j) 0).testBit (k + i) = false →
    (∀ d, oi.dst = some d → d ∉ looks all oj) ∧ (∀ d, oi.dst = some d → oj.dst ≠ some d) ∧ (∀ d, oj.dst = some d → d ∉ looks all oi)
  | [], k, _, i, oi, j, oj, h, _, _, _ => by simp at h
  | p :: os, k, hc, i, oi, j, oj, hi, hj, hij, hm => by
    simp only [chkT, Bool.and_eq_true] at hc
    obtain ⟨j, rfl⟩ : ∃ j', j = j' + 1 := ⟨j - 1, by omega⟩
    cases i with
    | zero =>
      simp at hi
      subst hi
      exact chkT1_at hc.1 j oj (by simpa using hj) (by rw [show k + 1 + j = k + (j + 1) by omega]; exact hm)
    | succ i => exact chkT_at hc.2 i oi j oj (by simpa using hi) (by simpa using hj) (by omega) (by rw [show k + 1 + j = k + (j + 1) by omega, show k + 1 + i = k + (i + 1) by omega]; exact hm)
theorem disj_at {a b : List Nat} (h : disj a b = true) : ∀ x ∈ a, x ∉ b := fun x hx hb => by
  have := List.all_eq_true.1 h x hx
  simp [hb] at this
theorem chkH1_at {ms : List Nat} {i : Nat} {fi : List Nat × List Nat} : ∀ {fs : Fp} {k : Nat}, chkH1 ms i fi fs k = true → ∀ j f, fs[j]? = some f → (ms.getD (k + j) 0).testBit i = false → disj fi.2 f.1 = true ∧ disj fi.2 f.2 = true ∧ disj f.2 fi.1 = true
  | [], k, _, j, o, h, _ => by simp at h
  | p :: os, k, hc, j, o, h, hm => by
    simp only [chkH1, Bool.and_eq_true] at hc
    obtain ⟨h1, h3⟩ := hc
    cases j with
    | zero =>
      simp at h
      subst h
      rw [Nat.add_zero] at hm
      rw [hm, Bool.false_or, Bool.and_eq_true, Bool.and_eq_true] at h1
      exact ⟨h1.1.1, h1.1.2, h1.2⟩
    | succ j => exact chkH1_at h3 j o (by simpa using h) (by rw [show k + 1 + j = k + (j + 1) by omega]; exact hm)
theorem chkH_at {ms : List Nat} : ∀ {fs : Fp} {k : Nat}, chkH ms fs k = true → ∀ i fi j fj, fs[i]? = some fi → fs[j]? = some fj → i < j → (ms.getD (k + j) 0).testBit (k + i) = false → disj fi.2 fj.1 = true ∧ disj fi.2 fj.2 = true ∧ disj fj.2 fi.1 = true
  | [], k, _, i, oi, j, oj, h, _, _, _ => by simp at h
  | p :: os, k, hc, i, oi, j, oj, hi, hj, hij, hm => by
    simp only [chkH, Bool.and_eq_true] at hc
    obtain ⟨j, rfl⟩ : ∃ j', j = j' + 1 := ⟨j - 1, by omega⟩
    cases i with
    | zero =>
      simp at hi
      subst hi
      exact chkH1_at hc.1 j oj (by simpa using hj) (by rw [show k + 1 + j = k + (j + 1) by omega]; exact hm)
    | succ i => exact chkH_at hc.2 i oi j oj (by simpa using hi) (by simpa using hj) (by omega) (by rw [show k + 1 + j = k + (j + 1) by omega, show k + 1 + i = k + (i + 1) by omega]; exact hm)
theorem chkE_at {ms : List Nat} {n0 N : Nat} : ∀ {fs : Fp} {k : Nat}, chkE ms n0 N fs k = true → ∀ i f, fs[i]? = some f → ∀ x ∈ f.2, x < n0 ∨ (n0 + 8 * (k + i) ≤ x ∧ x < n0 + 8 * (k + i) + 8) ∨ (x < n0 + 8 * N ∧ (ms.getD (k + i) 0).testBit ((x - n0) / 8) = true)
  | [], k, _, i, f, h => by simp at h
  | p :: os, k, hc, i, f, h => by
    simp only [chkE, Bool.and_eq_true] at hc
    cases i with
    | zero =>
      simp at h
      subst h
      intro x hx
      have := List.all_eq_true.1 hc.1 x hx
      simp only [Bool.or_eq_true, decide_eq_true_eq, Bool.and_eq_true, or_assoc] at this
      exact this
    | succ i =>
      rw [show k + (i + 1) = k + 1 + i by omega]
      exact chkE_at hc.2 i f (by simpa using h)

/-! ### The order of the text serves for all -/
def FirstK (l : Array Bool) (N k : Nat) : Prop := l.size = N ∧ ∀ j, j < N → l[j]? = some (decide (j < k))
theorem firstK_true {l : Array Bool} {N k : Nat} (h : FirstK l N k) {j : Nat} (hj : l.getD j false = true) : j < N ∧ j < k := by
  by_cases hlt : j < N
  · refine ⟨hlt, ?_⟩
    rw [Array.getD_eq_getD_getElem?, h.2 j hlt] at hj
    simpa using hj
  · rw [Array.getD_eq_getD_getElem?, Array.getElem?_eq_none (by rw [h.1]; omega)] at hj
    cases hj
theorem firstK_false {l : Array Bool} {N k : Nat} (h : FirstK l N k) {j : Nat} (hj : l.getD j true = false) : j < N ∧ k ≤ j := by
  by_cases hlt : j < N
  · refine ⟨hlt, ?_⟩
    rw [Array.getD_eq_getD_getElem?, h.2 j hlt] at hj
    simpa using hj
  · rw [Array.getD_eq_getD_getElem?, Array.getElem?_eq_none (by rw [h.1]; omega)] at hj
    cases hj
theorem firstK_set {l : Array Bool} {N k : Nat} (h : FirstK l N k) (hk : k < N) : FirstK (l.setIfInBounds k true) N (k + 1) := by
  refine ⟨by simp [h.1], fun j hj => ?_⟩
  by_cases hjk : k = j
  · subst hjk
    simp [h.1, hk]
  · rw [Array.getElem?_setIfInBounds_ne hjk, h.2 j hj]
    congr 1
    simp only [decide_eq_decide]
    omega

theorem chain_any {l : List Oper} {n0 : Nat} {recs : List Rec} {Qf : (Nat → PV) → (Nat → Option Blk) → Prop} {C : Nat → Nat → Bool} (hC : Clo l.toArray C)
    (hind : ∀ i oi j oj, l[i]? = some oi → l[j]? = some oj → i < j → C j i = false → Ind l oi oj (recs.getD i default) (recs.getD j default)) :
    ∀ (os : List Oper) (k : Nat) (rs : List Rec) (tm : Nat → PV) (H : Nat → Option Blk) (listed : Array Bool), l.drop k = os → recs.drop k = rs → k ≤ l.length → FirstK listed l.length k → Chain P T nt l Qf os (n0 + 8 * k) rs tm H →
      anyA P T nt l.toArray n0 (fun i => recs.getD i default) Qf (l.length - k) listed tm H
  | [], k, rs, tm, H, listed, ho, hr, hk, hl, h => by
    have hN : l.length ≤ k := List.drop_eq_nil_iff.1 ho
    rw [show l.length - k = 0 by omega]
    refine ⟨?_, h.2⟩
    refine List.eq_nil_iff_forall_not_mem.2 fun j hj => ?_
    have := firstK_false hl (mem_ready.1 hj).1
    omega
  | o :: os, k, rs, tm, H, listed, ho, hr, hk, hl, h => by
    obtain ⟨r, rs', rfl, hst, hch⟩ := h
    have hlt : k < l.length := by
      rcases Nat.lt_or_ge k l.length with h | h
      · exact h
      · rw [List.drop_eq_nil_iff.2 h] at ho; cases ho
    have hok : l[k]? = some o := by
      have := congrArg (·[0]?) ho
      simpa using this
    have hrk : recs.getD k default = r := by
      have := congrArg (·[0]?) hr
      simp only [List.getElem?_drop, Nat.add_zero, List.getElem?_cons_zero] at this
      rw [List.getD_eq_getElem?_getD, this]; rfl
    have hcl : Closed l.toArray listed := fun j oj hoj hlj e he hb => by
      have h1 := firstK_true hl hlj
      have h2 := hC.back j oj hoj e he hb
      rw [Array.getD_eq_getD_getElem?, hl.2 e.on (by omega)]
      simp
      omega
    have hrd : k ∈ Region.ready .any l.toArray listed := by
      refine mem_ready.2 ⟨?_, o, by simpa using hok, fun e he hb => ?_⟩
      · rw [Array.getD_eq_getD_getElem?, hl.2 k hlt]; simp
      · have h2 := hC.back k o (by simpa using hok) e he hb
        rw [Array.getD_eq_getD_getElem?, hl.2 e.on (by omega)]
        simp
        exact h2
    rw [show l.length - k = (l.length - (k + 1)) + 1 by omega]
    refine anyA_first hC (i := k) (by simpa using hok) (l.length - (k + 1)) listed tm H hcl (fun j oj hj hjk hun hno => ?_) hrd ?_ ?_
    · have := firstK_false hl hun
      exact hind k o j oj hok (by simpa using hj) (by omega) hno
    · show StepR P T l o (n0 + 8 * k) (recs.getD k default) tm H
      rw [hrk]; exact hst
    · show anyA P T nt l.toArray n0 (fun i => recs.getD i default) Qf _ _ (putF nt tm o.dst (recs.getD k default).pv) ((recs.getD k default).eff.on H)
      rw [hrk]
      exact chain_any hC hind os (k + 1) rs' _ _ _ (by rw [← List.drop_drop, ho]; rfl) (by rw [← List.drop_drop, hr]; rfl) (by omega) (firstK_set hl hlt) hch

theorem sim_drew {n0 : Nat} {S : Fr n0} {B : Nat} {W0 : World} {st : St} {a : Act} {w : World} {d : Nat} (h : Sim S B nt W0 st a w) : Sim S B nt W0 st a { w with drawn := d } := by
  obtain ⟨c, rfl, hH, hok, hfresh, hrep, hsz, hdef, hbel, hS⟩ := h
  have hg : c.w.grownBy { c.w with drawn := d } none := ⟨rfl, rfl, rfl, Nat.le_refl _, fun _ _ _ => rfl⟩
  obtain ⟨c', e1, e2, e3, hp⟩ := post_world hok hg
  exact ⟨c', e1, by rw [hp.H, hH]; rfl, hp.heap, fun id hid hA => by rcases (hp.A id).1 hA with h | h; exact hfresh id hid h; simp at h, fun t => (hrep t).mono hp.le, hsz, hdef, by rw [← e1]; exact hbel.trans hp.below, hS.post hp⟩

theorem swp_draw (hT : TyOk P T) (hP : P.follows .mixedOrders = true) {Q : Exit → St → Prop} {st : St} {id : Nat} {l : List Oper} {ms : List Nat} (hm : (chkM ms l 0 && chkT l ms l 0) = true)
    (h : runD P T nt l l st.n st.tm st.H [] fun fp tm H n => (chkH ms fp.reverse 0 && chkE ms st.n l.length fp.reverse 0) = true ∧ Q .normal ⟨tm, H, n⟩) : SWp P nt n0 (.region id l.toArray true) Q st := fun S B W0 a w hs => by
  refine wp_region_any hP ?_
  have hs := sim_drew (d := w.drawn + 1) hs
  generalize { w with drawn := w.drawn + 1 } = w at hs
  rw [Bool.and_eq_true] at hm
  obtain ⟨rs, tm', H', hlen, ⟨hh, hq⟩, hch⟩ := runD_chain _ _ _ _ _ h
  rw [Bool.and_eq_true] at hh
  simp only [List.append_nil, List.reverse_reverse] at hh
  have hC := clo_of hm.1
  have hfp : ∀ i, i < l.length → (rs.map Rec.fp)[i]? = some (rs.getD i default).fp := fun i hi => by
    have : rs[i]? = some rs[i] := List.getElem?_eq_getElem (by omega)
    rw [List.getElem?_map, List.getD_eq_getElem?_getD, this]; rfl
  obtain ⟨c, rfl, hH, hok, hfresh, hrep, hsz, hdef, hbel, hS⟩ := hs
  have hany := chain_any hC (recs := rs) (n0 := st.n) (P := P) (T := T) (nt := nt) (Qf := fun t h => t = getT tm' ∧ h = getH H') (fun i oi j oj hi hj hij hno => by
    have li := (List.getElem?_eq_some_iff.1 hi).1
    have lj := (List.getElem?_eq_some_iff.1 hj).1
    obtain ⟨t1, t2, t3⟩ := chkT_at hm.2 i oi j oj hi hj hij (by rw [Nat.zero_add, Nat.zero_add]; exact hno)
    obtain ⟨d1, d2, d3⟩ := chkH_at hh.1 i _ j _ (hfp i li) (hfp j lj) hij (by rw [Nat.zero_add, Nat.zero_add]; exact hno)
    refine ⟨t1, t2, t3, fun p hp => ⟨disj_at d1 p.1 (List.mem_map.2 ⟨p, hp, rfl⟩), fun q hq e => ?_⟩, fun q hq => disj_at d3 q.1 (List.mem_map.2 ⟨q, hq, rfl⟩)⟩
    exact disj_at d2 p.1 (List.mem_map.2 ⟨p, hp, rfl⟩) (e ▸ List.mem_map.2 ⟨q, hq, rfl⟩)) l 0 rs (getT st.tm) (getH st.H) (Array.replicate l.length false) rfl rfl (by omega) ⟨by simp, fun j hj => by simp [hj]⟩ hch
  refine anyA_sound hT hC (n0 := st.n) (recs := fun i => rs.getD i default) (Qf := fun t h => t = getT tm' ∧ h = getH H') (S := S) (B := B) (W0 := W0) (nt := nt) (fun i hi p hp => ?_) (fun tm H c a hqf hcH hok hf hrep hsz hdef hbel hS => ?_) _ _ _ _ a c hany (fun j o ho hl => ?_) hH hok (fun k hk _ q hq => hfresh _ (by omega)) (fun id hid => hfresh id (by omega)) hrep hsz hdef hbel hS
  · have hi' : i < l.length := by simpa using hi
    have hsz' : l.toArray.size = l.length := by simp
    rw [hsz']
    have := chkE_at hh.2 i _ (hfp i hi') p.1 (List.mem_map.2 ⟨p, hp, rfl⟩)
    rw [Nat.zero_add] at this
    refine ⟨by omega, fun k hk hki e e' => ?_⟩
    rcases this with h | h | ⟨_, h⟩
    · omega
    · omega
    · rw [show (p.1 - st.n) / 8 = k by omega] at h
      exact h
  · obtain ⟨rfl, rfl⟩ := hqf
    exact ⟨_, hq, c, rfl, hcH, hok, fun id hid => hf id (by simpa using hid), hrep, hsz, hdef, hbel, hS⟩
  · intro e he hb
    exfalso
    rw [Array.getD_eq_getD_getElem?] at hl
    by_cases hj : j < l.length
    · simp [hj] at hl
    · simp [hj] at hl
end Go.Pv
