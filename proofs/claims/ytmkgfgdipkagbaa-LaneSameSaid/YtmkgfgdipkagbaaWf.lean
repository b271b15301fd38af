import Derived.Test.YtmkgfgdipkagbaaPgc
import Derived.LoopN
import Derived.ScopeJumps
import Derived.IntWalk
import Derived.OpenShut
import Derived.ChangeArms
import Derived.ChangeSlices
namespace Go.Pv
set_option linter.unusedVariables false
set_option linter.unusedSimpArgs false
open Go Go.RowKit
variable {P : Program} {T : Ty} {nt n0 : Nat}

theorem step1_det {o : Oper} {tm : Nat → PV} {H : Nat → Option Blk} {n : Nat} {b : Bool} : Det2 (step1 P T o tm H n b) := fun K h => by
  unfold step1 at h ⊢
  split at h
  · split at h
    · exact ⟨_, _, ⟨h.1, h.2.1, h.2.2.1, rfl, rfl⟩, h.2.2.2⟩
    · obtain ⟨x, y, h1, h2⟩ := opv_det K h.2
      exact ⟨x, y, ⟨h.1, h1⟩, h2⟩
  · obtain ⟨x, y, h1, h2⟩ := opv_det K h.2
    exact ⟨x, y, ⟨h.1, h1⟩, h2⟩

/-- What each operation reads and turns (the newest first). -/
abbrev Fp := List (List Nat × List Nat)
/-- A region in the order of its text. -/
def runD (P : Program) (T : Ty) (nt : Nat) (all : List Oper) : List Oper → Nat → List (Nat × PV) → List (Nat × Option Blk) → Fp → (Fp → List (Nat × PV) → List (Nat × Option Blk) → Nat → Prop) → Prop
  | [], n, tm, H, fp, K => K fp tm H n
  | o :: os, n, tm, H, fp, K => gd all o (getT tm) fun b => match o.guard with
    | none => step1 P T o (getT tm) (getH H) n true fun pv eff => runD P T nt all os (n + 8) (putT nt tm o.dst pv) (onL eff H) ((rdO T (evu T (getT tm)) o.op, eff.map (·.1)) :: fp) K
    | some _ => match sug T o (getT tm) (getH H) with
      | some v => (b = true → step1 P T o (getT tm) (getH H) n b fun pv eff => pv = v ∧ eff = []) ∧ runD P T nt all os (n + 8) (putT nt tm o.dst (.opt b v)) H ((rdO T (evu T (getT tm)) o.op, []) :: fp) K
      | none => (∃ v, (b = true → step1 P T o (getT tm) (getH H) n b fun pv eff => pv = v ∧ eff = []) ∧ runD P T nt all os (n + 8) (putT nt tm o.dst (.opt b v)) H ((rdO T (evu T (getT tm)) o.op, []) :: fp) K) ∨
        (∃ v E, (b = true → step1 P T o (getT tm) (getH H) n b fun pv eff => pv = v ∧ eff = E) ∧ (b = false → ∀ p ∈ E, getH H p.1 = p.2) ∧ (∀ p ∈ E, p.1 ∈ rdO T (evu T (getT tm)) o.op) ∧ runD P T nt all os (n + 8) (putT nt tm o.dst (.opt b v)) (onL E H) ((rdO T (evu T (getT tm)) o.op, E.map (·.1)) :: fp) K)

def Rec.fp (r : Rec) : List Nat × List Nat := (r.rd, r.eff.map (·.1))
/-- One behind the other, with what each did. -/
def Chain (P : Program) (T : Ty) (nt : Nat) (all : List Oper) (Qf : (Nat → PV) → (Nat → Option Blk) → Prop) : List Oper → Nat → List Rec → (Nat → PV) → (Nat → Option Blk) → Prop
  | [], _, rs, tm, H => rs = [] ∧ Qf tm H
  | o :: os, n, rs, tm, H => ∃ r rs', rs = r :: rs' ∧ StepR P T all o n r tm H ∧ Chain P T nt all Qf os (n + 8) rs' (putF nt tm o.dst r.pv) (r.eff.on H)

theorem gd_get {ops : List Oper} {o : Oper} {tm : Nat → PV} {K : Bool → Prop} (h : gd ops o tm K) : ∃ b, K b ∧ (gd ops o tm fun b' => b' = b) ∧ (o.guard = none → b = true) := by
  unfold gd at h ⊢
  split at h
  · exact ⟨true, h, rfl, fun _ => rfl⟩
  · rename_i hg
    split at h
    · split at h
      · exact ⟨_, h, rfl, fun h => by rw [hg] at h; cases h⟩
      · exact ⟨_, h, rfl, fun h => by rw [hg] at h; cases h⟩
      · exact h.elim
    · exact h.elim

theorem runD_chain {all : List Oper} {K : Fp → List (Nat × PV) → List (Nat × Option Blk) → Nat → Prop} : ∀ (os : List Oper) (n : Nat) (tm : List (Nat × PV)) (H : List (Nat × Option Blk)) (fp : Fp), runD P T nt all os n tm H fp K →
    ∃ rs tm' H', rs.length = os.length ∧ K ((rs.map Rec.fp).reverse ++ fp) tm' H' (n + 8 * os.length) ∧ Chain P T nt all (fun t h => t = getT tm' ∧ h = getH H') os n rs (getT tm) (getH H)
  | [], n, tm, H, fp, h => ⟨[], tm, H, rfl, h, rfl, rfl, rfl⟩
  | o :: os, n, tm, H, fp, h => by
    obtain ⟨b, h1, hg, hb⟩ := gd_get h
    have joined : ∀ v, (b = true → step1 P T o (getT tm) (getH H) n b fun pv eff => pv = v ∧ eff = []) → runD P T nt all os (n + 8) (putT nt tm o.dst (.opt b v)) H ((rdO T (evu T (getT tm)) o.op, []) :: fp) K →
        ∃ rs tm' H', rs.length = (o :: os).length ∧ K ((rs.map Rec.fp).reverse ++ fp) tm' H' (n + 8 * (o :: os).length) ∧ Chain P T nt all (fun t h => t = getT tm' ∧ h = getH H') (o :: os) n rs (getT tm) (getH H) := fun v h2 h3 => by
      obtain ⟨rs, tm', H', e1, e2, e3⟩ := runD_chain os _ _ _ _ h3
      refine ⟨⟨b, v, .opt b v, [], rdO T (evu T (getT tm)) o.op⟩ :: rs, tm', H', by simp [e1], ?_, _, rs, rfl, ⟨hg, fun hb' => ?_, (fun _ p hp => by cases hp), .inr rfl, rfl⟩, ?_⟩
      · rw [List.map_cons, List.reverse_cons, List.append_assoc, List.length_cons, show n + 8 * (os.length + 1) = n + 8 + 8 * os.length by omega]
        exact e2
      · have hb'' : b = true := hb'
        have := h2 hb''
        rw [hb''] at this
        exact this
      · rw [getT_putT] at e3
        exact e3
    split at h1
    · rename_i hgn
      obtain rfl := hb hgn
      obtain ⟨pv, eff, h2, h3⟩ := step1_det _ h1
      obtain ⟨rs, tm', H', e1, e2, e3⟩ := runD_chain os _ _ _ _ h3
      refine ⟨⟨true, pv, pv, eff, rdO T (evu T (getT tm)) o.op⟩ :: rs, tm', H', by simp [e1], ?_, _, rs, rfl, ⟨hg, fun _ => h2, (fun h => by cases h), .inl ⟨rfl, rfl⟩, rfl⟩, ?_⟩
      · rw [List.map_cons, List.reverse_cons, List.append_assoc, List.length_cons, show n + 8 * (os.length + 1) = n + 8 + 8 * os.length by omega]
        exact e2
      · rw [getT_putT, getH_on] at e3
        exact e3
    · split at h1
      · exact joined _ h1.1 h1.2
      · rcases h1 with ⟨v, h2, h3⟩ | ⟨v, E, h2, h2', h2'', h3⟩
        · exact joined v h2 h3
        · obtain ⟨rs, tm', H', e1, e2, e3⟩ := runD_chain os _ _ _ _ h3
          refine ⟨⟨b, v, .opt b v, E, rdO T (evu T (getT tm)) o.op⟩ :: rs, tm', H', by simp [e1], ?_, _, rs, rfl, ⟨hg, fun hb' => ?_, fun hb' p hp => ⟨h2'' p hp, h2' hb' p hp⟩, .inr rfl, rfl⟩, ?_⟩
          · rw [List.map_cons, List.reverse_cons, List.append_assoc, List.length_cons, show n + 8 * (os.length + 1) = n + 8 + 8 * os.length by omega]
            exact e2
          · have hb'' : b = true := hb'
            have := h2 hb''
            rw [hb''] at this
            exact this
          · rw [getT_putT, getH_on] at e3
            exact e3

/-! ### The checks -/
/-- What comes before an operation, as bits, out of those of the operations ahead of it. -/
def maskOf (ms : Nat → Nat) : List Edge → Nat
  | [] => 0
  | e :: es => if Region.binds .any e then (2 ^ e.on ||| ms e.on) ||| maskOf ms es else maskOf ms es
theorem maskOf_bit {ms : Nat → Nat} {i : Nat} : ∀ {es : List Edge}, (maskOf ms es).testBit i = true → ∃ e ∈ es, Region.binds .any e = true ∧ (e.on = i ∨ (ms e.on).testBit i = true)
  | [], h => by simp [maskOf] at h
  | e :: es, h => by
    unfold maskOf at h
    by_cases hb : Region.binds .any e = true
    · rw [if_pos hb, Nat.testBit_or, Nat.testBit_or, Bool.or_eq_true, Bool.or_eq_true] at h
      rcases h with (h | h) | h
      · rw [Nat.testBit_two_pow] at h
        exact ⟨e, by simp, hb, .inl (by simpa using h)⟩
      · exact ⟨e, by simp, hb, .inr h⟩
      · obtain ⟨e', h1, h2⟩ := maskOf_bit h
        exact ⟨e', List.mem_cons_of_mem _ h1, h2⟩
    · rw [if_neg hb] at h
      obtain ⟨e', h1, h2⟩ := maskOf_bit h
      exact ⟨e', List.mem_cons_of_mem _ h1, h2⟩
def masks : List Oper → List Nat → List Nat
  | [], acc => acc
  | o :: os, acc => masks os (acc ++ [maskOf (fun i => acc.getD i 0) o.after.toList])
def chkM (ms : List Nat) : List Oper → Nat → Bool
  | [], _ => true
  | o :: os, j => (ms.getD j 0 == maskOf (fun i => ms.getD i 0) o.after.toList) && (o.after.toList.all fun e => !Region.binds .any e || decide (e.on < j)) && chkM ms os (j + 1)
/-- Slots: those that are not ordered do not meet. -/
def chkT1 (all : List Oper) (ms : List Nat) (i : Nat) (oi : Oper) : List Oper → Nat → Bool
  | [], _ => true
  | oj :: os, j => ((ms.getD j 0).testBit i || (match oi.dst with | some d => !(looks all oj).contains d && !(oj.dst == some d) | none => true) && (match oj.dst with | some d => !(looks all oi).contains d | none => true)) && chkT1 all ms i oi os (j + 1)
def chkT (all : List Oper) (ms : List Nat) : List Oper → Nat → Bool
  | [], _ => true
  | o :: os, i => chkT1 all ms i o os (i + 1) && chkT all ms os (i + 1)
def disj (a b : List Nat) : Bool := a.all fun x => !b.contains x
def chkH1 (ms : List Nat) (i : Nat) (fi : List Nat × List Nat) : Fp → Nat → Bool
  | [], _ => true
  | fj :: fs, j => ((ms.getD j 0).testBit i || disj fi.2 fj.1 && disj fi.2 fj.2 && disj fj.2 fi.1) && chkH1 ms i fi fs (j + 1)
def chkH (ms : List Nat) : Fp → Nat → Bool
  | [], _ => true
  | f :: fs, i => chkH1 ms i f fs (i + 1) && chkH ms fs (i + 1)
def chkE (ms : List Nat) (n0 N : Nat) : Fp → Nat → Bool
  | [], _ => true
  | f :: fs, i => (f.2.all fun x => decide (x < n0) || (decide (n0 + 8 * i ≤ x) && decide (x < n0 + 8 * i + 8)) || (decide (x < n0 + 8 * N) && (ms.getD i 0).testBit ((x - n0) / 8))) && chkE ms n0 N fs (i + 1)

theorem chkM_at {ms : List Nat} : ∀ {os : List Oper} {k : Nat}, chkM ms os k = true → ∀ j o, os[j]? = some o → ms.getD (k + j) 0 = maskOf (fun i => ms.getD i 0) o.after.toList ∧ ∀ e ∈ o.after, Region.binds .any e = true → e.on < k + j
  | [], k, _, j, o, h => by simp at h
  | p :: os, k, hc, j, o, h => by
    simp only [chkM, Bool.and_eq_true, beq_iff_eq, List.all_eq_true] at hc
    obtain ⟨⟨h1, h2⟩, h3⟩ := hc
    cases j with
    | zero =>
      simp at h
      subst h
      refine ⟨h1, fun e he hb => ?_⟩
      have := h2 e (by simpa using he)
      simpa [hb] using this
    | succ j =>
      have := chkM_at h3 j o (by simpa using h)
      rw [show k + (j + 1) = k + 1 + j by omega]
      exact this
theorem clo_of {l : List Oper} {ms : List Nat} (h : chkM ms l 0 = true) : Clo l.toArray fun j i => (ms.getD j 0).testBit i := by
  refine ⟨fun j o i ho hc => ?_, fun j o ho e he hb => ?_⟩
  · have := (chkM_at h j o (by simpa using ho)).1
    rw [Nat.zero_add] at this
    rw [this] at hc
    obtain ⟨e, h1, h2⟩ := maskOf_bit hc
    exact ⟨e, by simpa using h1, h2⟩
  · have := (chkM_at h j o (by simpa using ho)).2 e he hb
    omega

theorem chkT1_at {all : List Oper} {ms : List Nat} {i : Nat} {oi : Oper} : ∀ {os : List Oper} {k : Nat}, chkT1 all ms i oi os k = true → ∀ j o, os[j]? = some o → (ms.getD (k + j) 0).testBit i = false →
    (∀ d, oi.dst = some d → d ∉ looks all o) ∧ (∀ d, oi.dst = some d → o.dst ≠ some d) ∧ (∀ d, o.dst = some d → d ∉ looks all oi)
  | [], k, _, j, o, h, _ => by simp at h
  | p :: os, k, hc, j, o, h, hm => by
    simp only [chkT1, Bool.and_eq_true] at hc
    obtain ⟨h1, h3⟩ := hc
    cases j with
    | zero =>
      simp at h
      subst h
      rw [Nat.add_zero] at hm
      rw [hm, Bool.false_or, Bool.and_eq_true] at h1
      obtain ⟨h1, h2⟩ := h1
      refine ⟨fun d hd => ?_, fun d hd => ?_, fun d hd => ?_⟩
      · rw [hd] at h1; simp at h1; exact h1.1
      · rw [hd] at h1; simp at h1; exact h1.2
      · rw [hd] at h2; simpa using h2
    | succ j => exact chkT1_at h3 j o (by simpa using h) (by rw [show k + 1 + j = k + (j + 1) by omega]; exact hm)
theorem chkT_at {all : List Oper} {ms : List Nat} : ∀ {os : List Oper} {k : Nat}, chkT all ms os k = true → ∀ i oi j oj, os[i]? = some oi → os[j]? = some oj → i < j → (ms.getD (k + j) 0).testBit (k + i) = false →
    (∀ d, oi.dst = some d → d ∉ looks all oj) ∧ (∀ d, oi.dst = some d → oj.dst ≠ some d) ∧ (∀ d, oj.dst = some d → d ∉ looks all oi)
  | [], k, _, i, oi, j, oj, h, _, _, _ => by simp at h
  | p :: os, k, hc, i, oi, j, oj, hi, hj, hij, hm => by
    simp only [chkT, Bool.and_eq_true] at hc
    obtain ⟨j, rfl⟩ : ∃ j', j = j' + 1 := ⟨j - 1, by omega⟩
    cases i with
    | zero =>
      simp at hi
      subst hi
      exact chkT1_at hc.1 j oj (by simpa using hj) (by rw [show k + 1 + j = k + (j + 1) by omega]; exact hm)
    | succ i => exact chkT_at hc.2 i oi j oj (by simpa using hi) (by simpa using hj) (by omega) (by rw [show k + 1 + j = k + (j + 1) by omega, show k + 1 + i = k + (i + 1) by omega]; exact hm)
theorem disj_at {a b : List Nat} (h : disj a b = true) : ∀ x ∈ a, x ∉ b := fun x hx hb => by
  have := List.all_eq_true.1 h x hx
  simp [hb] at this
theorem chkH1_at {ms : List Nat} {i : Nat} {fi : List Nat × List Nat} : ∀ {fs : Fp} {k : Nat}, chkH1 ms i fi fs k = true → ∀ j f, fs[j]? = some f → (ms.getD (k + j) 0).testBit i = false → disj fi.2 f.1 = true ∧ disj fi.2 f.2 = true ∧ disj f.2 fi.1 = true
  | [], k, _, j, o, h, _ => by simp at h
  | p :: os, k, hc, j, o, h, hm => by
    simp only [chkH1, Bool.and_eq_true] at hc
    obtain ⟨h1, h3⟩ := hc
    cases j with
    | zero =>
      simp at h
      subst h
      rw [Nat.add_zero] at hm
      rw [hm, Bool.false_or, Bool.and_eq_true, Bool.and_eq_true] at h1
      exact ⟨h1.1.1, h1.1.2, h1.2⟩
    | succ j => exact chkH1_at h3 j o (by simpa using h) (by rw [show k + 1 + j = k + (j + 1) by omega]; exact hm)
theorem chkH_at {ms : List Nat} : ∀ {fs : Fp} {k : Nat}, chkH ms fs k = true → ∀ i fi j fj, fs[i]? = some fi → fs[j]? = some fj → i < j → (ms.getD (k + j) 0).testBit (k + i) = false → disj fi.2 fj.1 = true ∧ disj fi.2 fj.2 = true ∧ disj fj.2 fi.1 = true
  | [], k, _, i, oi, j, oj, h, _, _, _ => by simp at h
  | p :: os, k, hc, i, oi, j, oj, hi, hj, hij, hm => by
    simp only [chkH, Bool.and_eq_true] at hc
    obtain ⟨j, rfl⟩ : ∃ j', j = j' + 1 := ⟨j - 1, by omega⟩
    cases i with
    | zero =>
      simp at hi
      subst hi
      exact chkH1_at hc.1 j oj (by simpa using hj) (by rw [show k + 1 + j = k + (j + 1) by omega]; exact hm)
    | succ i => exact chkH_at hc.2 i oi j oj (by simpa using hi) (by simpa using hj) (by omega) (by rw [show k + 1 + j = k + (j + 1) by omega, show k + 1 + i = k + (i + 1) by omega]; exact hm)
theorem chkE_at {ms : List Nat} {n0 N : Nat} : ∀ {fs : Fp} {k : Nat}, chkE ms n0 N fs k = true → ∀ i f, fs[i]? = some f → ∀ x ∈ f.2, x < n0 ∨ (n0 + 8 * (k + i) ≤ x ∧ x < n0 + 8 * (k + i) + 8) ∨ (x < n0 + 8 * N ∧ (ms.getD (k + i) 0).testBit ((x - n0) / 8) = true)
  | [], k, _, i, f, h => by simp at h
  | p :: os, k, hc, i, f, h => by
    simp only [chkE, Bool.and_eq_true] at hc
    cases i with
    | zero =>
      simp at h
      subst h
      intro x hx
      have := List.all_eq_true.1 hc.1 x hx
      simp only [Bool.or_eq_true, decide_eq_true_eq, Bool.and_eq_true, or_assoc] at this
      exact this
    | succ i =>
      rw [show k + (i + 1) = k + 1 + i by omega]
      exact chkE_at hc.2 i f (by simpa using h)

/-! ### The order of the text serves for all -/
def FirstK (l : Array Bool) (N k : Nat) : Prop := l.size = N ∧ ∀ j, j < N → l[j]? = some (decide (j < k))
theorem firstK_true {l : Array Bool} {N k : Nat} (h : FirstK l N k) {j : Nat} (hj : l.getD j false = true) : j < N ∧ j < k := by
  by_cases hlt : j < N
  · refine ⟨hlt, ?_⟩
    rw [Array.getD_eq_getD_getElem?, h.2 j hlt] at hj
    simpa using hj
  · rw [Array.getD_eq_getD_getElem?, Array.getElem?_eq_none (by rw [h.1]; omega)] at hj
    cases hj
theorem firstK_false {l : Array Bool} {N k : Nat} (h : FirstK l N k) {j : Nat} (hj : l.getD j true = false) : j < N ∧ k ≤ j := by
  by_cases hlt : j < N
  · refine ⟨hlt, ?_⟩
    rw [Array.getD_eq_getD_getElem?, h.2 j hlt] at hj
    simpa using hj
  · rw [Array.getD_eq_getD_getElem?, Array.getElem?_eq_none (by rw [h.1]; omega)] at hj
    cases hj
theorem firstK_set {l : Array Bool} {N k : Nat} (h : FirstK l N k) (hk : k < N) : FirstK (l.setIfInBounds k true) N (k + 1) := by
  refine ⟨by simp [h.1], fun j hj => ?_⟩
  by_cases hjk : k = j
  · subst hjk
    simp [h.1, hk]
  · rw [Array.getElem?_setIfInBounds_ne hjk, h.2 j hj]
    congr 1
    simp only [decide_eq_decide]
    omega

theorem chain_any {l : List Oper} {n0 : Nat} {recs : List Rec} {Qf : (Nat → PV) → (Nat → Option Blk) → Prop} {C : Nat → Nat → Bool} (hC : Clo l.toArray C)
    (hind : ∀ i oi j oj, l[i]? = some oi → l[j]? = some oj → i < j → C j i = false → Ind l oi oj (recs.getD i default) (recs.getD j default)) :
    ∀ (os : List Oper) (k : Nat) (rs : List Rec) (tm : Nat → PV) (H : Nat → Option Blk) (listed : Array Bool), l.drop k = os → recs.drop k = rs → k ≤ l.length → FirstK listed l.length k → Chain P T nt l Qf os (n0 + 8 * k) rs tm H →
      anyA P T nt l.toArray n0 (fun i => recs.getD i default) Qf (l.length - k) listed tm H
  | [], k, rs, tm, H, listed, ho, hr, hk, hl, h => by
    have hN : l.length ≤ k := List.drop_eq_nil_iff.1 ho
    rw [show l.length - k = 0 by omega]
    refine ⟨?_, h.2⟩
    refine List.eq_nil_iff_forall_not_mem.2 fun j hj => ?_
    have := firstK_false hl (mem_ready.1 hj).1
    omega
  | o :: os, k, rs, tm, H, listed, ho, hr, hk, hl, h => by
    obtain ⟨r, rs', rfl, hst, hch⟩ := h
    have hlt : k < l.length := by
      rcases Nat.lt_or_ge k l.length with h | h
      · exact h
      · rw [List.drop_eq_nil_iff.2 h] at ho; cases ho
    have hok : l[k]? = some o := by
      have := congrArg (·[0]?) ho
      simpa using this
    have hrk : recs.getD k default = r := by
      have := congrArg (·[0]?) hr
      simp only [List.getElem?_drop, Nat.add_zero, List.getElem?_cons_zero] at this
      rw [List.getD_eq_getElem?_getD, this]; rfl
    have hcl : Closed l.toArray listed := fun j oj hoj hlj e he hb => by
      have h1 := firstK_true hl hlj
      have h2 := hC.back j oj hoj e he hb
      rw [Array.getD_eq_getD_getElem?, hl.2 e.on (by omega)]
      simp
      omega
    have hrd : k ∈ Region.ready .any l.toArray listed := by
      refine mem_ready.2 ⟨?_, o, by simpa using hok, fun e he hb => ?_⟩
      · rw [Array.getD_eq_getD_getElem?, hl.2 k hlt]; simp
      · have h2 := hC.back k o (by simpa using hok) e he hb
        rw [Array.getD_eq_getD_getElem?, hl.2 e.on (by omega)]
        simp
        exact h2
    rw [show l.length - k = (l.length - (k + 1)) + 1 by omega]
    refine anyA_first hC (i := k) (by simpa using hok) (l.length - (k + 1)) listed tm H hcl (fun j oj hj hjk hun hno => ?_) hrd ?_ ?_
    · have := firstK_false hl hun
      exact hind k o j oj hok (by simpa using hj) (by omega) hno
    · show StepR P T l o (n0 + 8 * k) (recs.getD k default) tm H
      rw [hrk]; exact hst
    · show anyA P T nt l.toArray n0 (fun i => recs.getD i default) Qf _ _ (putF nt tm o.dst (recs.getD k default).pv) ((recs.getD k default).eff.on H)
      rw [hrk]
      exact chain_any hC hind os (k + 1) rs' _ _ _ (by rw [← List.drop_drop, ho]; rfl) (by rw [← List.drop_drop, hr]; rfl) (by omega) (firstK_set hl hlt) hch

theorem sim_drew {n0 : Nat} {S : Fr n0} {B : Nat} {W0 : World} {st : St} {a : Act} {w : World} {d : Nat} (h : Sim S B nt W0 st a w) : Sim S B nt W0 st a { w with drawn := d } := by
  obtain ⟨c, rfl, hH, hok, hfresh, hrep, hsz, hdef, hbel, hS⟩ := h
  have hg : c.w.grownBy { c.w with drawn := d } none := ⟨rfl, rfl, rfl, Nat.le_refl _, fun _ _ _ => rfl⟩
  obtain ⟨c', e1, e2, e3, hp⟩ := post_world hok hg
  exact ⟨c', e1, by rw [hp.H, hH]; rfl, hp.heap, fun id hid hA => by rcases (hp.A id).1 hA with h | h; exact hfresh id hid h; simp at h, fun t => (hrep t).mono hp.le, hsz, hdef.to hp.only, by rw [← e1]; exact hbel.trans hp.below, hS.post hp⟩

theorem swp_draw (hT : TyOk P T) (hP : P.follows .mixedOrders = true) {Q : Exit → St → Prop} {st : St} {id : Nat} {l : List Oper} {ms : List Nat} (hm : (chkM ms l 0 && chkT l ms l 0) = true)
    (h : runD P T nt l l st.n st.tm st.H [] fun fp tm H n => (chkH ms fp.reverse 0 && chkE ms st.n l.length fp.reverse 0) = true ∧ Q .normal ⟨tm, H, n⟩) : SWp P nt n0 (.region id l.toArray true) Q st := fun S B W0 a w hs => by
  refine wp_region_any hP ?_
  have hs := sim_drew (d := w.drawn + 1) hs
  generalize { w with drawn := w.drawn + 1 } = w at hs
  rw [Bool.and_eq_true] at hm
  obtain ⟨rs, tm', H', hlen, ⟨hh, hq⟩, hch⟩ := runD_chain _ _ _ _ _ h
  rw [Bool.and_eq_true] at hh
  simp only [List.append_nil, List.reverse_reverse] at hh
  have hC := clo_of hm.1
  have hfp : ∀ i, i < l.length → (rs.map Rec.fp)[i]? = some (rs.getD i default).fp := fun i hi => by
    have : rs[i]? = some rs[i] := List.getElem?_eq_getElem (by omega)
    rw [List.getElem?_map, List.getD_eq_getElem?_getD, this]; rfl
  obtain ⟨c, rfl, hH, hok, hfresh, hrep, hsz, hdef, hbel, hS⟩ := hs
  have hany := chain_any hC (recs := rs) (n0 := st.n) (P := P) (T := T) (nt := nt) (Qf := fun t h => t = getT tm' ∧ h = getH H') (fun i oi j oj hi hj hij hno => by
    have li := (List.getElem?_eq_some_iff.1 hi).1
    have lj := (List.getElem?_eq_some_iff.1 hj).1
    obtain ⟨t1, t2, t3⟩ := chkT_at hm.2 i oi j oj hi hj hij (by rw [Nat.zero_add, Nat.zero_add]; exact hno)
    obtain ⟨d1, d2, d3⟩ := chkH_at hh.1 i _ j _ (hfp i li) (hfp j lj) hij (by rw [Nat.zero_add, Nat.zero_add]; exact hno)
    refine ⟨t1, t2, t3, fun p hp => ⟨disj_at d1 p.1 (List.mem_map.2 ⟨p, hp, rfl⟩), fun q hq e => ?_⟩, fun q hq => disj_at d3 q.1 (List.mem_map.2 ⟨q, hq, rfl⟩)⟩
    exact disj_at d2 p.1 (List.mem_map.2 ⟨p, hp, rfl⟩) (e ▸ List.mem_map.2 ⟨q, hq, rfl⟩)) l 0 rs (getT st.tm) (getH st.H) (Array.replicate l.length false) rfl rfl (by omega) ⟨by simp, fun j hj => by simp [hj]⟩ hch
  refine anyA_sound hT hC (n0 := st.n) (recs := fun i => rs.getD i default) (Qf := fun t h => t = getT tm' ∧ h = getH H') (S := S) (B := B) (W0 := W0) (nt := nt) (fun i hi p hp => ?_) (fun tm H c a hqf hcH hok hf hrep hsz hdef hbel hS => ?_) _ _ _ _ a c hany (fun j o ho hl => ?_) hH hok (fun k hk _ q hq => hfresh _ (by omega)) (fun id hid => hfresh id (by omega)) hrep hsz hdef hbel hS
  · have hi' : i < l.length := by simpa using hi
    have hsz' : l.toArray.size = l.length := by simp
    rw [hsz']
    have := chkE_at hh.2 i _ (hfp i hi') p.1 (List.mem_map.2 ⟨p, hp, rfl⟩)
    rw [Nat.zero_add] at this
    refine ⟨by omega, fun k hk hki e e' => ?_⟩
    rcases this with h | h | ⟨_, h⟩
    · omega
    · omega
    · rw [show (p.1 - st.n) / 8 = k by omega] at h
      exact h
  · obtain ⟨rfl, rfl⟩ := hqf
    exact ⟨_, hq, c, rfl, hcH, hok, fun id hid => hf id (by simpa using hid), hrep, hsz, hdef, hbel, hS⟩
  · intro e he hb
    exfalso
    rw [Array.getD_eq_getD_getElem?] at hl
    by_cases hj : j < l.length
    · simp [hj] at hl
    · simp [hj] at hl
end Go.Pv


namespace Go.Pv
set_option linter.unusedVariables false
set_option linter.unusedSimpArgs false
open Go Go.RowKit
variable {P : Program} {T : Ty} {nt n0 : Nat}

/-! ### What goes through for one end goes through for a wider one -/
theorem ldP_mon {ti : TI} {H : Nat → Option Blk} {p : PV} : Mon (ldP ti H p) := fun K K' hk h => by
  cases p <;> try (exact h.elim)
  case ptr id i j tot =>
    simp only [ldP] at h ⊢
    cases hb : H id with
    | none => rw [hb] at h; exact h.elim
    | some b => rw [hb] at h; exact ⟨h.1, ldC_mon K K' hk h.2⟩
  case rop cs i j => exact ldC_mon K K' hk h
theorem fldP_mon {H : Nat → Option Blk} {off : Nat} {p : PV} : Mon (fldP H off p) := fun K K' hk h => by
  cases p <;> try (exact h.elim)
  case ptr => exact ⟨h.1, hk _ h.2⟩
  case rop => exact hk _ h
theorem ixS_mon {H : Nat → Option Blk} {te : TI} {i : Int} {p : PV} : Mon (ixS H te i p) := fun K K' hk h => by
  cases p <;> try (exact h.elim)
  case ro => exact ⟨h.1, h.2.1, h.2.2.1, hk _ h.2.2.2⟩
  case sl id off m tot =>
    simp only [ixS] at h ⊢
    cases hb : H id with
    | none => rw [hb] at h; exact h.elim
    | some b => rw [hb] at h; exact ⟨h.1, h.2.1, h.2.2.1, h.2.2.2.1, hk _ h.2.2.2.2⟩
  case asl id j m =>
    simp only [ixS] at h ⊢
    cases hb : H id with
    | none => rw [hb] at h; exact h.elim
    | some b => rw [hb] at h; exact ⟨h.1, h.2.1, h.2.2.1, hk _ h.2.2.2⟩
theorem ixA_mon {H : Nat → Option Blk} {m : Nat} {te : TI} {i : Int} {p : PV} : Mon (ixA H m te i p) := fun K K' hk h => by
  cases p <;> try (exact h.elim)
  case ptr => exact ⟨h.1, h.2.1, h.2.2.1, hk _ h.2.2.2⟩
  case rop => exact ⟨h.1, h.2.1, hk _ h.2.2⟩
theorem slP_mon {H : Nat → Option Blk} {te : TI} {l h' : Option Int} {p : PV} : Mon (slP H te l h' p) := fun K K' hk h => by
  cases p <;> try (exact h.elim)
  case ro => exact ⟨h.1, h.2.1, h.2.2.1, h.2.2.2.1, hk _ h.2.2.2.2⟩
  case nil => exact ⟨h.1, h.2.1, hk _ h.2.2⟩
  case sl id off m tot =>
    simp only [slP] at h ⊢
    cases hb : H id with
    | none => rw [hb] at h; exact h.elim
    | some b => rw [hb] at h; exact ⟨h.1, h.2.1, h.2.2.1, h.2.2.2.1, h.2.2.2.2.1, hk _ h.2.2.2.2.2⟩
theorem slA_mon {H : Nat → Option Blk} {m : Nat} {x : Int} {p : PV} : Mon (slA H m x p) := fun K K' hk h => by
  cases p <;> try (exact h.elim)
  rename_i id i j tot
  simp only [slA] at h ⊢
  cases hb : H id with
  | none => rw [hb] at h; exact h.elim
  | some b => rw [hb] at h; exact ⟨h.1, h.2.1, h.2.2.1, h.2.2.2.1, h.2.2.2.2.1, h.2.2.2.2.2.1, hk _ h.2.2.2.2.2.2⟩
theorem sl0_mon {H : Nat → Option Blk} {p : PV} : Mon (sl0 H p) := fun K K' hk h => by
  cases p <;> try (exact h.elim)
  case ro => exact hk _ h
  case nil => exact hk _ h
  case sl id off m tot =>
    simp only [sl0] at h ⊢
    cases hb : H id with
    | none => rw [hb] at h; exact h.elim
    | some b => rw [hb] at h; exact hk _ h
theorem ops2_mon {op : BinOp} {k : IntKind} {a b : Int} : Mon (ops2 op k a b) := fun K K' hk h => by
  cases op <;> simp only [ops2] at h ⊢ <;> first | exact hk _ h | exact ⟨h.1, hk _ h.2⟩
theorem sh2_mon {op : BinOp} {k : IntKind} {a b : Int} : Mon (sh2 op k a b) := fun K K' hk h => by
  cases op <;> simp only [sh2] at h ⊢ <;> exact ⟨h.1, hk _ h.2⟩
theorem bin_mon {xt : TypeId} {op : BinOp} {x y : PV} : Mon (bin T xt op x y) := fun K K' hk h => by
  unfold bin at h ⊢
  split at h
  · split at h
    · exact sh2_mon K K' hk h
    · exact sh2_mon K K' hk h
    · exact ⟨h.1, ops2_mon K K' hk h.2⟩
  · split at h
    · obtain ⟨hk', h⟩ := h
      split at h
      · exact ⟨hk', hk _ h⟩
      · exact ⟨hk', hk _ h⟩
      · exact h.elim
    · exact h.elim
  · split at h
    · exact hk _ h
    · exact hk _ h
    · exact ⟨h.1, hk _ h.2⟩
    · exact h.elim
  · split at h
    · split at h
      · split at h
        · split at h
          · exact hk _ h
          · exact hk _ h
          · exact h.elim
        · exact h.elim
      · exact h.elim
    · exact h.elim
  · exact h.elim
theorem apS_mon {H : Nat → Option Blk} {n : Nat} {e : TypeId} {te : TI} {s x : PV} : Mon2 (apS H n e te s x) := fun K K' hk h => by
  cases s <;> try (exact h.elim)
  case nil cs => exact rdS_mon _ _ (fun c hc => ⟨hc.1, hc.2.1, hc.2.2.1, hk _ _ hc.2.2.2⟩) h
  case sl id off m tot =>
    obtain ⟨e1, e2, h⟩ := h
    simp only [apS]
    refine ⟨e1, e2, ?_⟩
    cases hb : H id with
    | none => rw [hb] at h; exact h.elim
    | some b =>
      rw [hb] at h
      exact ⟨h.1, h.2.1, h.2.2.1, h.2.2.2.1, rdS_mon _ _ (fun c hc => ⟨hc.1, hc.2.1, apC_mon _ _ (fun d hd => hk _ _ hd) hc.2.2⟩) h.2.2.2.2⟩
theorem bltn_mon {ρ : TypeId → Operand → PV} {H : Nat → Option Blk} {n : Nat} {b : Builtin} {args : List Operand} {ts : List TypeId} : Mon2 (bltn T ρ H n b args ts) := fun K K' hk h => by
  unfold bltn at h ⊢
  split at h
  · split at h
    · split at h <;> first | exact hk _ _ h | exact h.elim
    · exact h.elim
  · split at h
    · exact mxF_mon _ _ _ _ (fun v hv => hk _ _ hv) h
    · exact h.elim
  · split at h
    · exact mxF_mon _ _ _ _ (fun v hv => hk _ _ hv) h
    · exact h.elim
  · obtain ⟨e1, h⟩ := h
    split at h
    · exact h.elim
    · split at h
      · split at h
        · exact h.elim
        · exact ⟨e1, h.1, apS_mon _ _ hk h.2⟩
      · exact h.elim
  · split at h
    · exact h.elim
    · split at h
      · split at h
        · exact h.elim
        · exact cpS_mon hk h
      · exact h.elim
  · exact h.elim

theorem opv_mon {o : Oper} {ρ : TypeId → Operand → PV} {H : Nat → Option Blk} {n : Nat} : Mon2 (opv P T o ρ H n) := fun K K' hk h => by
  cases hop : o.op <;> simp only [opv, hop] at h ⊢ <;> try (exact h.elim)
  case move x => exact hk _ _ h
  case assign x => exact hk _ _ h
  case pick c x y =>
    split at h
    · exact ⟨fun e => hk _ _ (h.1 e), fun e => hk _ _ (h.2 e)⟩
    · exact h.elim
  case alloc e =>
    split at h
    · split at h
      · exact ⟨h.1, hk _ _ h.2⟩
      · exact ⟨h.1, hk _ _ h.2⟩
    · exact h.elim
  case box e x =>
    split at h
    · exact ⟨h.1, hk _ _ h.2⟩
    · exact h.elim
  case build t parts =>
    split at h
    · split at h
      · split at h
        · exact fillP_mon _ _ _ _ (fun c hc => hk _ _ hc) h
        · split at h
          · exact fillP_mon _ _ _ _ (fun c hc => hk _ _ hc) h
          · exact h.elim
        · exact h.elim
      · exact h.elim
    · exact h.elim
  case buildSlice t len parts =>
    split at h
    · split at h
      · split at h
        · obtain ⟨a1, a2, a3, h⟩ := h
          split at h
          · refine ⟨a1, a2, a3, fillP_mon _ _ _ _ (fun c hc => ⟨hc.1, mvL_mon _ _ _ _ (fun x y hx => ?_) hc.2⟩) h⟩
            split at hx
            · exact hx.imp (hk _ _) (hk _ _)
            · exact hx.elim
          · exact h.elim
        · exact h.elim
      · exact h.elim
    · exact h.elim
  case load t x =>
    split at h
    · exact ldP_mon _ _ (fun v hv => hk _ _ hv) h
    · exact h.elim
  case store t x y =>
    split at h
    · split at h
      · split at h
        · obtain ⟨a1, h⟩ := h
          split at h
          · obtain ⟨a2, a3, h1, h2⟩ := h
            exact ⟨a1, a2, a3, fun e => stC_mon _ _ (fun c hc => hk _ _ hc) (h1 e), fun e => mvL_mon _ _ _ _ (fun x y hx => ⟨hx.1, stC_mon _ _ (fun c hc => hk _ _ hc) hx.2⟩) (h2 e)⟩
          · exact h.elim
        · exact h.elim
      · exact h.elim
    · exact h.elim
  case nilCheck x =>
    split at h <;> first | exact ⟨h.1, hk _ _ h.2⟩ | exact hk _ _ h | exact h.elim
  case binOp op t x y u => exact bin_mon _ _ (fun v hv => hk _ _ hv) h
  case unOp op t x => split at h <;> first | exact hk _ _ h | exact h.elim
  case convert s d x =>
    split at h
    · split at h
      · split at h
        · exact hk _ _ h
        · exact h.elim
      · split at h
        · split at h
          · refine ⟨h.1, rdS_mon _ _ (fun c hc => ?_) h.2⟩
            split at hc
            · exact hk _ _ hc
            · exact hk _ _ hc
            · exact hc.elim
          · exact h.elim
        · exact h.elim
      · exact h.elim
    · exact h.elim
  case makeFunc fn first caps => split at h <;> first | exact ⟨h.1, hk _ _ h.2⟩ | exact h.elim
  case makeSlice t l cp =>
    split at h
    · split at h
      · split at h
        · refine idx_mon _ _ (fun i hi => idx_mon _ _ (fun j hj => ?_) hi) h
          obtain ⟨a1, a2, a3, a4, a5, hj⟩ := hj
          refine ⟨a1, a2, a3, a4, a5, ?_⟩
          split at hj
          · obtain ⟨a6, hj⟩ := hj
            refine ⟨a6, ?_⟩
            split at hj
            · exact ⟨hj.1, hj.2.imp (hk _ _) (hk _ _)⟩
            · exact hj.elim
            · split at hj
              · exact hj.imp (hk _ _) (hk _ _)
              · exact hj.elim
          · exact hj.elim
        · exact h.elim
      · exact h.elim
    · exact h.elim
  case slice t x lo hi mx =>
    split at h
    · split at h
      · split at h
        · split at h
          · exact ⟨h.1, h.2.1, h.2.2.1, sl0_mon _ _ (fun v hv => hk _ _ hv) h.2.2.2⟩
          · exact oidx_mon _ _ (fun l hl => oidx_mon _ _ (fun m hm => slP_mon _ _ (fun v hv => hk _ _ hv) hm) hl) h
        · exact h.elim
      · exact ⟨h.1, h.2.1, h.2.2.1, oidx_mon _ _ (fun m hm => slA_mon _ _ (fun v hv => hk _ _ hv) hm) h.2.2.2⟩
      · exact h.elim
    · exact h.elim
  case fieldAddr t x f =>
    split at h
    · split at h
      · split at h
        · exact ⟨h.1, fldP_mon _ _ (fun v hv => hk _ _ hv) h.2⟩
        · exact h.elim
      · exact h.elim
    · exact h.elim
  case indexAddr t x ix =>
    split at h
    · split at h
      · split at h
        · exact h.elim
        · exact idx_mon _ _ (fun i hi => ixS_mon _ _ (fun v hv => hk _ _ hv) hi) h
      · split at h
        · exact h.elim
        · exact idx_mon _ _ (fun i hi => ixA_mon _ _ (fun v hv => hk _ _ hv) hi) h
      · exact h.elim
    · exact h.elim
  case index t x ix =>
    split at h
    · split at h
      · split at h
        · refine idx_mon _ _ (fun i hi => ?_) h
          split at hi
          · refine ⟨hi.1, hi.2.1, ?_⟩
            have hi := hi.2.2
            split at hi
            · rename_i ha; rw [if_pos ha]; exact ⟨hi.1, hk _ _ hi.2⟩
            · rename_i ha; rw [if_neg ha]; obtain ⟨v, a3, h2⟩ := hi; exact ⟨v, a3, hk _ _ h2⟩
          · exact hi.elim
        · exact h.elim
      · exact h.elim
    · exact h.elim
  case extract x i =>
    split at h
    · split at h
      · exact hk _ _ h
      · exact h.elim
    · exact h.elim
  case call cl =>
    split at h
    · exact bltn_mon _ _ hk h
    · split at h
      · rcases h with h | ⟨Hr, r, e, k1, k2, k3, k4, k5⟩
        · refine .inl (frzA_mon _ _ _ (fun x y hx => ?_) h)
          obtain ⟨r, h2, h3⟩ := hx
          refine ⟨r, h2, ?_⟩
          split at h3
          · rename_i hs; rw [if_pos hs]; exact hk _ _ h3
          · rename_i hs; rw [if_neg hs]; exact hk _ _ h3
        · exact .inr ⟨Hr, r, e, k1, k2, k3, k4, hk _ _ k5⟩
      · exact h.elim
    · exact h.elim
theorem step1_mon {o : Oper} {tm : Nat → PV} {H : Nat → Option Blk} {n : Nat} {b : Bool} : Mon2 (step1 P T o tm H n b) := fun K K' hk h => by
  unfold step1 at h ⊢
  split at h
  · split at h
    · exact ⟨h.1, h.2.1, h.2.2.1, hk _ _ h.2.2.2⟩
    · exact ⟨h.1, opv_mon _ _ hk h.2⟩
  · exact ⟨h.1, opv_mon _ _ hk h.2⟩
theorem gd_mon {ops : List Oper} {o : Oper} {tm : Nat → PV} : Mon (gd ops o tm) := fun K K' hk h => by
  unfold gd at h ⊢
  split at h
  · exact hk _ h
  · split at h
    · split at h
      · exact hk _ h
      · exact hk _ h
      · exact h.elim
    · exact h.elim

/-! ### A region in parts -/
theorem runs_app {all : List Oper} {K : St → Prop} : ∀ (l1 l2 : List Oper) (st : St), runs P T nt all l1 st (fun st' => runs P T nt all l2 st' K) → runs P T nt all (l1 ++ l2) st K
  | [], l2, st, h => h
  | o :: l1, l2, st, h => by
    rw [List.cons_append]
    refine gd_mon _ _ (fun b h1 => ?_) h
    split at h1
    · exact step1_mon _ _ (fun pv eff h2 => runs_app l1 l2 _ h2) h1
    · split at h1
      · exact ⟨h1.1, runs_app l1 l2 _ h1.2⟩
      · rcases h1 with ⟨v, h2, h3⟩ | ⟨v, E, h2, h3, h4⟩
        · exact .inl ⟨v, h2, runs_app l1 l2 _ h3⟩
        · exact .inr ⟨v, E, h2, h3, runs_app l1 l2 _ h4⟩
theorem runs_cut {all l : List Oper} {K : St → Prop} {st : St} (k : Nat) (h : ∀ K' : St → Prop, (∀ st', runs P T nt all (l.drop k) st' K → K' st') → runs P T nt all (l.take k) st K') : runs P T nt all l st K := by
  rw [← List.take_append_drop k l]
  exact runs_app _ _ _ (h _ fun st' h => h)
theorem runD_app {all : List Oper} {K : Fp → List (Nat × PV) → List (Nat × Option Blk) → Nat → Prop} : ∀ (l1 l2 : List Oper) (n : Nat) (tm : List (Nat × PV)) (H : List (Nat × Option Blk)) (fp : Fp), runD P T nt all l1 n tm H fp (fun fp tm H n => runD P T nt all l2 n tm H fp K) → runD P T nt all (l1 ++ l2) n tm H fp K
  | [], l2, n, tm, H, fp, h => h
  | o :: l1, l2, n, tm, H, fp, h => by
    rw [List.cons_append]
    refine gd_mon _ _ (fun b h1 => ?_) h
    split at h1
    · exact step1_mon _ _ (fun pv eff h2 => runD_app l1 l2 _ _ _ _ h2) h1
    · split at h1
      · exact ⟨h1.1, runD_app l1 l2 _ _ _ _ h1.2⟩
      · rcases h1 with ⟨v, h2, h3⟩ | ⟨v, E, h2, h2', h2'', h3⟩
        · exact .inl ⟨v, h2, runD_app l1 l2 _ _ _ _ h3⟩
        · exact .inr ⟨v, E, h2, h2', h2'', runD_app l1 l2 _ _ _ _ h3⟩
theorem runD_cut {all l : List Oper} {K : Fp → List (Nat × PV) → List (Nat × Option Blk) → Nat → Prop} {n : Nat} {tm : List (Nat × PV)} {H : List (Nat × Option Blk)} {fp : Fp} (k : Nat)
    (h : ∀ K' : Fp → List (Nat × PV) → List (Nat × Option Blk) → Nat → Prop, (∀ fp tm H n, runD P T nt all (l.drop k) n tm H fp K → K' fp tm H n) → runD P T nt all (l.take k) n tm H fp K') : runD P T nt all l n tm H fp K := by
  rw [← List.take_append_drop k l]
  exact runD_app _ _ _ _ _ _ (h _ fun _ _ _ _ h => h)

/-! ### A choice -/
def cnd (tm : Nat → PV) (x : Operand) (K : Bool → Prop) : Prop := match ev (fun _ => none) tm 0 x with
  | .bool t => K t
  | _ => False
theorem swp_if {Q : Exit → St → Prop} {st : St} {x : Operand} {c d : Code} (h : ∀ K : Bool → Prop, (∀ t, (t = true → SWp P nt n0 c Q st) → (t = false → SWp P nt n0 d Q st) → K t) → cnd (getT st.tm) x K) : SWp P nt n0 (.cond x c d) Q st := by
  have := h (fun t => (t = true → SWp P nt n0 c Q st) ∧ (t = false → SWp P nt n0 d Q st)) fun t h1 h2 => ⟨h1, h2⟩
  unfold cnd at this
  split at this
  · rename_i t ht
    exact swp_cond ht this.1 this.2
  · exact this.elim

/-- A loop, round by round: so many at most. -/
def SRnd (P : Program) (nt n0 : Nat) (c : Code) (Q : Exit → St → Prop) : Nat → St → Prop
  | 0, _ => False
  | n + 1, st => SWp P nt n0 c (thn (SRnd P nt n0 c Q n) Q) st
/-! ### An empty slice may be taken for an own row -/
theorem swp_own {Q : Exit → St → Prop} {st : St} {c : Code} (t : Nat) {cs : Cells} (e : TypeId) (ht : getT st.tm t = .nil cs) (hl : cs.len = 0) (h : SWp P nt n0 c Q ⟨(t, .sl st.n 0 0 0) :: st.tm, (st.n, some ⟨cs, false, e⟩) :: st.H, st.n + 1⟩) : SWp P nt n0 c Q st := fun S B W0 a w hs => by
  refine h S B W0 a w ?_
  obtain ⟨cx, rfl, hH, hok, hfresh, hrep, hsz, hdef, hbel, hS⟩ := hs
  obtain ⟨c', h1, h2, hp⟩ := post_new (V' := .slice none 0 0) (blk' := ⟨cs, false, e⟩) (id := st.n) (w' := cx.w) hok (hfresh st.n (Nat.le_refl _)) ⟨rfl, rfl, rfl, Nat.le_refl _, fun _ _ _ => rfl⟩ (fun g hg => by simp [blkOf] at hg) (fun c' _ hw => by
    unfold BlkOk
    exact ⟨[], ⟨by simp [hl], .inl ⟨rfl, hl⟩⟩, by simp [hl], fun i j hi => by rw [hl] at hi; omega⟩)
  refine ⟨c', h1, ?_, hp.heap, fun id hid hA => ?_, fun t' => ?_, hsz, hdef.to hp.only, by rw [← h1]; exact hbel.trans hp.below, hS.post hp⟩
  · rw [hp.H, hH]
    funext i
    show put (getH st.H) st.n _ i = _
    simp only [put_at, getH]
  · have hid' : st.n + 1 ≤ id := hid
    rcases (hp.A id).1 hA with h | h
    · exact hfresh id (by omega) h
    · simp at h; omega
  · show Rep c' false (if t = t' then .sl st.n 0 0 0 else getT st.tm t') _
    by_cases htt : t = t'
    · subst htt
      rw [if_pos rfl]
      have hr := hrep t
      rw [ht] at hr
      have hA : c'.A st.n := (hp.A st.n).2 (.inr (by simp))
      generalize a.tmps.getD t undef = v at hr
      cases hr with
      | nil _ _ A _ =>
        refine .sl st.n 0 0 0 _ hA ⟨A, 0, rfl, Nat.le_refl _⟩ fun blk hb => ?_
        have hb' : (⟨cs, false, e⟩ : Blk) = blk := by
          rw [hp.H] at hb
          have : put cx.H st.n (some ⟨cs, false, e⟩) st.n = some blk := hb
          rw [put_same] at this
          cases this; rfl
        subst hb'
        refine ⟨rfl, by show 0 ≤ cs.len; omega, fun _ => ⟨Nat.le_refl _, fun _ => .inr ⟨?_, A, rfl⟩, fun h => .inl rfl⟩⟩
        rw [h2, put_same]
    · rw [if_neg htt]
      exact (hrep t').mono hp.le

/-- The same of an empty slice in a box. -/
theorem swp_ownb {Q : Exit → St → Prop} {st : St} {c : Code} (bid j : Nat) (e : TypeId) {wd : Nat} {row : List PV} {be : TypeId} {cs : Cells} (hb : getH st.H bid = some ⟨.rows wd [row], true, be⟩) (hj : row[j]? = some (.nil cs)) (hl : cs.len = 0)
    (h : SWp P nt n0 c Q ⟨st.tm, (bid, some ⟨.rows wd [row.set j (.sl st.n 0 0 0)], true, be⟩) :: (st.n, some ⟨cs, false, e⟩) :: st.H, st.n + 1⟩) : SWp P nt n0 c Q st := fun S B W0 a w hs => by
  refine h S B W0 a w ?_
  obtain ⟨cx, rfl, hH, hok, hfresh, hrep, hsz, hdef, hbel, hS⟩ := hs
  have hbx : cx.H bid = some ⟨.rows wd [row], true, be⟩ := by rw [hH]; exact hb
  have hAb := (hok.ok bid _ hbx).1
  have hne : bid ≠ st.n := fun he => hfresh st.n (Nat.le_refl _) (he ▸ hAb)
  obtain ⟨c', h1, h2, hp⟩ := post_new (V' := .slice none 0 0) (blk' := ⟨cs, false, e⟩) (id := st.n) (w' := cx.w) hok (hfresh st.n (Nat.le_refl _)) ⟨rfl, rfl, rfl, Nat.le_refl _, fun _ _ _ => rfl⟩ (fun g hg => by simp [blkOf] at hg) (fun c' _ hw => by
    unfold BlkOk
    exact ⟨[], ⟨by simp [hl], .inl ⟨rfl, hl⟩⟩, by simp [hl], fun i j hi => by rw [hl] at hi; omega⟩)
  have hHn : c'.H st.n = some ⟨cs, false, e⟩ := by
    rw [hp.H]
    exact put_same _ _ _
  have hHb : c'.H bid = some ⟨.rows wd [row], true, be⟩ := by
    rw [hp.H]
    have : put cx.H st.n (some ⟨cs, false, e⟩) bid = some ⟨.rows wd [row], true, be⟩ := by rw [put_ne _ _ (Ne.symm hne)]; exact hbx
    exact this
  have hA : c'.A st.n := (hp.A st.n).2 (.inr (by simp))
  have hsl : ∀ v, Rep c' false (.nil cs) v → Rep c' false (.sl st.n 0 0 0) v := fun v hr => by
    cases hr with
    | nil _ _ A _ =>
      refine .sl st.n 0 0 0 _ hA ⟨A, 0, rfl, Nat.le_refl _⟩ fun blk hb => ?_
      rw [hHn] at hb
      cases hb
      refine ⟨rfl, by show 0 ≤ cs.len; omega, fun _ => ⟨Nat.le_refl _, fun _ => .inr ⟨?_, A, rfl⟩, fun h => .inl rfl⟩⟩
      rw [h2, put_same]
  obtain ⟨c2, k1, k2, kp⟩ := post_upd (V' := c'.loc bid) (blk' := ⟨.rows wd [row.set j (.sl st.n 0 0 0)], true, be⟩) (id := bid) (w' := c'.w) hp.heap hHb (World.grownBy.refl c'.w _) (Nat.le_refl _) rfl rfl (fun _ => rfl) (fun g hg => .inl hg) (fun c2 hle hw => by
    have hbo := (hp.heap.ok bid _ hHb).2
    unfold BlkOk at hbo ⊢
    rw [if_pos rfl] at hbo ⊢
    obtain ⟨g, vs, T', e1, e2, e3, e4, e5⟩ := hbo
    refine ⟨g, vs, T', e1, e2, by show c2.w.heap[g]? = _; rw [hw]; exact e3, e4, fun i j' hi hj' => ?_⟩
    obtain ⟨v, f1, f2, f3⟩ := e5 i j' hi hj'
    refine ⟨v, f1, ?_, f3⟩
    have hi0 : i = 0 := by have : i < 1 := hi; omega
    subst hi0
    have g1 : (Cells.rows wd [row]).get 0 j' = row.getD j' .any := rfl
    have g2 : (Cells.rows wd [row.set j (.sl st.n 0 0 0)]).get 0 j' = (row.set j (.sl st.n 0 0 0)).getD j' .any := rfl
    rw [g1] at f2
    rw [g2]
    by_cases hjj : j = j'
    · subst hjj
      have hjl : j < row.length := (List.getElem?_eq_some_iff.1 hj).1
      rw [List.getD_eq_getElem?_getD, hj] at f2
      rw [List.getD_eq_getElem?_getD, List.getElem?_set_self hjl]
      exact (hsl v f2).mono hle
    · rw [List.getD_eq_getElem?_getD, List.getElem?_set_ne hjj, ← List.getD_eq_getElem?_getD]
      exact f2.mono hle)
  refine ⟨c2, k1.trans h1, ?_, kp.heap, fun id hid hA => ?_, fun t' => ((hrep t').mono hp.le).mono kp.le, hsz, (hdef.to hp.only).to kp.only, by rw [← h1, ← k1]; exact (hbel.trans hp.below).trans kp.below, (hS.post hp).post kp⟩
  · rw [kp.H, hp.H, hH]
    funext i
    show put (put (getH st.H) st.n _) bid _ i = _
    simp only [put_at, getH]
  · have hid' : st.n + 1 ≤ id := hid
    rcases (kp.A id).1 hA with h | h
    · rcases (hp.A id).1 h with h | h
      · exact hfresh id (by omega) h
      · simp at h; omega
    · simp at h
      rw [h] at hid'
      exact hfresh bid (by omega) hAb

/-! ### Own blocks may be given up: what they hold is read from now on -/
theorem zip_get {c c' : Cx} {a : Act} {tm : List (Nat × PV)} (h0 : ∀ t, Rep c' false (getT tm t) (a.tmps.getD t undef)) : ∀ (ts : List Nat) (ps : List PV), RepL c' false ps (ts.map fun t => a.tmps.getD t undef) → ∀ t, Rep c' false (getT (ts.zip ps ++ tm) t) (a.tmps.getD t undef)
  | [], ps, _, t => h0 t
  | t1 :: ts, [], h, t => absurd h.1 (by simp)
  | t1 :: ts, p :: ps, h, t => by
    obtain ⟨u, us, he, hp, hr⟩ := h.uncons
    rw [List.map_cons] at he
    obtain ⟨rfl, rfl⟩ := List.cons.inj he
    show Rep c' false (if t1 = t then p else getT (ts.zip ps ++ tm) t) _
    split
    · rename_i e; subst e; exact hp
    · exact zip_get (c := c) h0 ts ps hr t
/-! ### A scope with a label to which the run jumps back -/
def jmp (l : Nat) (K : St → Prop) (Q : Exit → St → Prop) : Exit → St → Prop
  | .goto l', st => l' = l ∧ K st
  | e, st => Q e st
theorem least {p : Nat → Prop} : ∀ m, p m → ∃ m, p m ∧ ∀ k, p k → m ≤ k := by
  intro m
  induction m using Nat.strongRecOn with
  | _ m ih =>
    intro h
    by_cases hk : ∃ k, k < m ∧ p k
    · obtain ⟨k, h1, h2⟩ := hk
      exact ih k h1 h2
    · exact ⟨m, h, fun k hp => Nat.le_of_not_lt fun hlt => hk ⟨k, hlt, hp⟩⟩
/-- 'is it nil?', of a slice that is read: what is empty may be, what holds something is not. -/
theorem swp_isnil (hT : TyOk P T) {Q : Exit → St → Prop} {st : St} {id d b : Nat} {x : Operand} {t e u : TypeId} {ti : TI} {cs : Cells} (ht : T t = some ti) (hk : ti.k = .slice e) (hx : ev T (getT st.tm) t x = .ro cs)
    (hd : d < nt) (hb : b < nt) (h : ∀ v : Bool, (v = true → cs.len = 0) → Q .normal ⟨(b, .bool v) :: (d, .ro cs) :: st.tm, st.H, st.n⟩)
    {o1 o2 : Oper} (h1 : o1.op = .move x ∧ o1.dst = some d ∧ o1.type = t ∧ o1.guard = none) (h2 : o2.op = .binOp .eql t (.tmp d) (.const (.slice none 0 0)) u ∧ o2.dst = some b ∧ o2.guard = none) : SWp P nt n0 (.region id #[o1, o2] false) Q st := fun S B W0 a w hs => by
  obtain ⟨cx, rfl, hH, hok, hfresh, hrep, hsz, hdef, hbel, hS⟩ := hs
  have hv := ev_ok (c := cx) (a := a) hT hrep t x
  rw [hx] at hv
  have hu := (hT.slice t ti e ht hk).1
  obtain ⟨A, n, cp, hvv, hnil⟩ : ∃ A n cp, a.eval x = .slice A n cp ∧ (A = none → cs.len = 0) := by
    generalize a.eval x = v at hv
    cases hv with
    | ro0 _ _ A cp h0 => exact ⟨A, 0, cp, rfl, fun _ => h0⟩
    | ro _ _ b off cp f h0 => exact ⟨_, _, cp, rfl, fun h => by cases h⟩
  refine wp_region_list ?_
  have w1 : ∀ a' : Act, Region.wanted o1 (yielded #[o1, o2] a'.tmps) = true := fun a' => by simp [Region.wanted, h1.2.2.2]
  have w2 : ∀ a' : Act, Region.wanted o2 (yielded #[o1, o2] a'.tmps) = true := fun a' => by simp [Region.wanted, h2.2.2]
  have r1 : (execOp a.eval o1).run P cx.w = .ok (.value (.slice A n cp)) cx.w := by simp [execOp, h1.1, hvv]
  let a1 := a.put (some d) (.slice A n cp)
  have hrep1 : ∀ t, Rep cx false (getT ((d, .ro cs) :: st.tm) t) (a1.tmps.getD t undef) := fun t' => by
    have := put_rep (nt := nt) hrep hsz (some d) (pv := .ro cs) (v := .slice A n cp) (by rw [← hvv]; exact hv) t'
    simpa [putT, hd] using this
  have e1 : a1.eval (.tmp d) = .slice A n cp := by
    show (a.put (some d) (.slice A n cp)).tmps.getD d undef = _
    have : d < a.tmps.size := by omega
    simp [Act.put, this]
  have hg : (eqGuard .eql t (.tmp d) (.const (.slice none 0 0)) (.slice A n cp) (.slice none 0 0)).run P cx.w = .ok () cx.w := by
    unfold eqGuard
    simp [Sem.run_bind, hu]
  have hq : (Op.equal t (.slice A n cp) (.slice none 0 0)).run P cx.w = .ok A.isNone cx.w := by
    unfold Op.equal Op.maxDepth Op.equalIn
    cases A <;> simp [run_underlying hu]
  have r2 : (execOp a1.eval o2).run P cx.w = .ok (.value (.bool A.isNone)) cx.w := by
    have ec : a1.eval (.const (.slice none 0 0)) = .slice none 0 0 := rfl
    simp only [execOp, h2.1, e1, ec, binOp, Sem.run_bind, hg, Result.andThen_ok, hq, Sem.run_pure]
  unfold wpList
  rw [if_pos (w1 a)]
  refine .inl ?_
  unfold Oper.wp
  rw [r1]
  show wpList P _ _ [o2] (a.put o1.dst (.slice A n cp)) cx.w
  rw [h1.2.1]
  show wpList P _ _ [o2] a1 cx.w
  unfold wpList
  rw [if_pos (w2 a1)]
  refine .inl ?_
  unfold Oper.wp
  rw [r2]
  show (fun e a' w' => ∃ st', Q e st' ∧ Sim S B nt W0 st' a' w') Exit.normal (a1.put o2.dst (.bool A.isNone)) cx.w
  rw [h2.2.1]
  have hsz1 : a1.tmps.size = nt := by rw [show a1 = a.put (some d) (.slice A n cp) from rfl, put_size]; exact hsz
  refine ⟨_, h A.isNone (fun hn => hnil (by simpa using hn)), cx, rfl, hH, hok, hfresh, fun t' => ?_, by rw [put_size]; exact hsz1, by rw [put_defers]; exact hdef, hbel, hS⟩
  have := put_rep (nt := nt) hrep1 hsz1 (some b) (pv := .bool A.isNone) (v := .bool A.isNone) (.bool ..) t'
  simpa [putT, hb] using this
end Go.Pv


namespace Go.Pv
set_option linter.unusedVariables false
set_option linter.unusedSimpArgs false
open Go Go.RowKit
variable {P : Program} {T : Ty} {nt : Nat}
/-! ### A call that gets places of the caller's own: out of a walk of its body -/
theorem eff_mem : ∀ {e : Eff} {H : Nat → Option Blk} {id : Nat} {b : Blk}, e.on H id = some b → id ∈ e.map (·.1) ∨ H id = some b
  | [], H, id, b, h => .inr h
  | (i, x) :: r, H, id, b, h => by
    rcases eff_mem (e := r) h with h1 | h1
    · exact .inl (List.mem_cons_of_mem _ h1)
    · by_cases hi : i = id
      · subst hi; exact .inl (by simp)
      · rw [put_ne _ _ hi] at h1; exact .inr h1
/-- The same of results: tuples may hold structs. -/
def inR1 (L : Nat → Bool) : PV → Bool
  | .agg cs => cs.all (inL1 L)
  | p => inL1 L p
def PV.inR (L : Nat → Bool) : PV → Bool
  | .tup cs => cs.all (inR1 L)
  | p => p.inL L
theorem Rep.cutR {L : Nat → Bool} {c c' : Cx} (h : CutP L c c') {q : Bool} {p : PV} {v : Value} (hl : p.inR L = true) (r : Rep c q p v) : Rep c' q p v := by
  cases p with
  | tup cs =>
    cases r with
    | tup _ _ vs h1 h2 =>
      refine .tup _ cs vs h1 fun i p v h3 h4 => ?_
      have hp : inR1 L p = true := List.all_eq_true.1 hl p (List.mem_of_getElem? h3)
      cases p with
      | agg l => exact (h2 i _ v h3 h4).cutP h hp
      | fn f caps =>
        cases caps with
        | nil => exact (h2 i _ v h3 h4).cutP1 h hp
        | cons => simp [inR1, inL1] at hp
      | _ => exact (h2 i _ v h3 h4).cutP1 h hp
  | _ => exact r.cutP h hl
def fnPostH (T : Ty) (fn : Func) (Hr : List (Nat × Option Blk)) (r : PV) (e : Eff) : Exit → St → Prop := fun x st => (x = .normal ∨ x = .ret) ∧ (resP T (getH st.H) (getT st.tm) fn.results.toList fun vs => r = tupOf vs) ∧
  r.inR (fun id => (e.on (getH Hr) id).isSome) = true ∧ ∀ p ∈ Hr.map (·.1) ++ e.map (·.1), ∀ b, e.on (getH Hr) p = some b → getH st.H p = some b ∧ b.inL (fun id => (e.on (getH Hr) id).isSome) = true
def tupV : List Value → Value
  | [u] => u
  | us => .tuple us.toArray
theorem tup_rep {c : Cx} {ps : List PV} {us : List Value} (h : RepL c false ps us) : Rep c false (tupOf ps) (tupV us) := by
  match us, ps, h with
  | [], [], _ => exact .tup false [] _ rfl (fun i q v h => by simp at h)
  | [u], [q], hl => exact hl.2 0 q u rfl rfl
  | u :: v :: us, p :: q :: qs, hl => exact .tup false _ _ (by simpa using hl.1) (fun i p u h1 h2 => hl.2 i p u h1 (by simpa using h2))
  | [], _ :: _, hl => exact absurd hl.1 (by simp)
  | [_], [], hl => exact absurd hl.1 (by simp)
  | [_], _ :: _ :: _, hl => exact absurd hl.1 (by simp)
  | _ :: _ :: _, [], hl => exact absurd hl.1 (by simp)
  | _ :: _ :: _, [_], hl => exact absurd hl.1 (by simp)
theorem results_run2 {fn : Func} {tmps : Array Value} {us : List Value} {w : World} (h : (fn.results.toList.mapM (rvS tmps)).run P w = .ok us w) : (results fn tmps).run P w = .ok (tupV us) w := by
  have := results_run h
  cases us with
  | nil => exact this
  | cons u us => cases us <;> exact this
theorem hcall_body (hT : TyOk P T) {f : FuncId} {fn : Func} {code : Code} {ps : List PV} {Hr : List (Nat × Option Blk)} {n : Nat} {r : PV} {e : Eff} (hf : P.funcs[f]? = some fn) (hb : fn.body = some code) (hname : (fn.name == "runtime.NumGoroutine") = false) (hlen : ps.length ≤ fn.ntmps)
    (h : SWp P fn.ntmps n code (fnPostH T fn Hr r e) ⟨argT 0 ps, Hr, n⟩) : HCall P f ps Hr n r e := by
  refine ⟨⟨fn, hf, hname, by rw [hb]; rfl⟩, fun c B vs hok hH hfr hargs => ?_⟩
  have hsz : vs.size ≤ fn.ntmps := by rw [← hargs.1]; exact hlen
  refine calls_of_marks hf hb (wp_mono (h ⟨fun _ => False, c⟩ B c.w _ c.w ⟨c, rfl, hH, hok, hfr, fun t => ?_, by simp; omega, trivial, Below.refl _ _, ⟨fun b h => h.elim, .refl _, fun b h => ⟨h, rfl, fun h => h⟩, fun id hA => Nat.lt_of_not_le fun hle => hfr id hle hA, Nat.le_refl _, fun b hb => .inl hb⟩⟩) ?_)
  · rw [argT_get, if_neg (by omega), Nat.sub_zero]
    cases hp : ps[t]? with
    | none => exact .any ..
    | some p =>
      have hlt : t < vs.size := by rw [← hargs.1]; exact (List.getElem?_eq_some_iff.1 hp).1
      have hv : vs[t]? = some vs[t] := Array.getElem?_eq_getElem hlt
      have hv' : (vs ++ Array.replicate (fn.ntmps - vs.size) undef)[t]? = some vs[t] := by rw [Array.getElem?_append_left hlt]; exact hv
      rw [Array.getD_eq_getD_getElem?, hv']
      exact hargs.2 t p _ hp hv
  · rintro x a' w' ⟨st, ⟨he, hr, hin, hkeep⟩, cf0, rfl, hHf0, hokf0, _, hrep0, _, hdef, hbel0, hK0⟩
    have key : ∀ cf, cf0.Le cf → cf.H = cf0.H → cf.A = cf0.A → cf.loc = cf0.loc → HeapOk cf B → Below B c.w cf.w → Keep (n0 := n) ⟨fun _ => False, c⟩ B c.w cf → ∃ v, (results fn a'.tmps).run P cf.w = .ok v cf.w ∧ ∃ v' c', Ending.returned v = .returned v' ∧ c'.w = cf.w ∧ Rep c' false r v' ∧ Post c c' B e := by
     intro cf hlef hHc hAc hlc hokf hbel hK
     have hHf : cf.H = getH st.H := hHc.trans hHf0
     have hrep : ∀ t, Rep cf false (getT st.tm t) (a'.tmps.getD t undef) := fun t => (hrep0 t).mono hlef
     rw [← hHf] at hr
     obtain ⟨us, qs, h1, h2, h3⟩ := res_ok hT hokf hrep _ _ hr
     have hres := results_run2 h1
     let L : Nat → Bool := fun id => (e.on (getH Hr) id).isSome
     let c' : Cx := { cf with H := e.on (getH Hr), A := fun id => c.A id ∨ id ∈ e.map (·.1) }
     have hk : ∀ id b, e.on (getH Hr) id = some b → cf.H id = some b ∧ b.inL L = true := fun id b hb => by
       have hm : id ∈ Hr.map (·.1) ++ e.map (·.1) := by
         rcases eff_mem hb with h | h
         · exact List.mem_append_right _ h
         · exact List.mem_append_left _ (List.mem_map.2 ⟨_, getH_mem Hr id b h, rfl⟩)
       have := hkeep id hm b hb
       rw [hHf]
       exact this
     have hA : ∀ id b, e.on (getH Hr) id = some b → c.A id ∨ id ∈ e.map (·.1) := fun id b hb => by
       rcases eff_mem hb with h | h
       · exact .inr h
       · rw [← hH] at h; exact .inl (hok.ok id b h).1
     have hcut : CutP L cf c' := ⟨rfl, rfl, rfl, rfl, fun id hL _ => by
       obtain ⟨b, hb⟩ := Option.isSome_iff_exists.1 hL
       exact hA id b hb, hk⟩
     have hle : c.Le c' := ⟨hK.le.stable, fun id h => .inl h, fun id b' h h' => hK.le.ids id b' h (hk id b' h').1, fun b hb => hK.le.park b hb⟩
     have hheap : HeapOk c' B := by
       refine ⟨fun id blk hb => ?_, fun id blk g hb hg => hokf.own id blk g (hk id blk hb).1 hg, fun i1 i2 b1 b2 g h1 h2 g1 g2 => hokf.inj i1 i2 b1 b2 g (hk i1 b1 h1).1 (hk i2 b2 h2).1 g1 g2, hokf.base, hokf.lt, fun b hb => let ⟨h1, h2, h3⟩ := hokf.pk b hb; ⟨h1, ⟨h2.1, fun id b' h' => h2.2 id b' (hk id b' h').1⟩, h3⟩⟩
       obtain ⟨h4, h5⟩ := hk id blk hb
       obtain ⟨h6, h7⟩ := hokf.ok id blk h4
       refine ⟨hA id blk hb, ?_⟩
       unfold BlkOk at h7 ⊢
       split
       · rename_i hbox
         rw [if_pos hbox] at h7
         obtain ⟨g, us, T', e1, e2, e3, e4⟩ := h7
         have hlo : blk.cs.inL L = true := by simpa [Blk.inL, hbox] using h5
         exact ⟨g, us, T', e1, e2, e3.to rfl (fun L' ps he t ht => ht.cutP hcut (lp_inL (by rw [he] at hlo; exact hlo) t)), e4.1, fun i j hi hj => by obtain ⟨v, h6, h7, h8⟩ := e4.2 i j hi hj; exact ⟨v, h6, h7.cutP1 hcut (inL_get hlo i j), h8⟩⟩
       · rename_i hbox
         rw [if_neg hbox] at h7
         obtain ⟨us, e1, e2⟩ := h7
         exact ⟨us, e1, e2.1, fun i j hi hj => by obtain ⟨v, h6, h7, h8⟩ := e2.2 i j hi hj; exact ⟨v, h6, @Rep.bare cf c' (fun b h1 h2 => ⟨h1, h2, fun _ => rfl⟩) true rfl _ _ h7, h8⟩⟩
     have hpost : Post c c' B e := by
       refine ⟨hle, hheap, by rw [hH], fun id => Iff.rfl, hbel, fun b hb ho => (hK.only b ⟨Nat.lt_of_lt_of_le hb hok.base, fun id blk h hg => ?_⟩).2.2 ho, fun b hb => ?_, fun b hb => hK.pkn b hb⟩
       · have := ((hok.ok id blk h).2.lt hg).1
         omega
       · obtain ⟨k1, k2, k3⟩ := hK.only b hb
         exact ⟨⟨k1.1, fun id blk h => k1.2 id blk (hk id blk h).1⟩, k2, k3⟩
     have hrr : Rep c' false r (tupV us) := by
       rw [h2] at hin ⊢
       exact (tup_rep h3).cutR hcut hin
     exact ⟨_, hres, _, c', rfl, rfl, hrr, hpost⟩
    have hlv := leave_marks (P := P) (fn := fn) (tmps := a'.tmps) (R := fun en w' => ∃ v c', en = .returned v ∧ c'.w = w' ∧ Rep c' false r v ∧ Post c c' B e) (n0 := n) (S := ⟨fun _ => False, c⟩) hok.base a'.defers cf0 hdef hokf0 hbel0 hK0 key
    rcases he with rfl | rfl
    · exact hlv
    · exact hlv
theorem hcl_mk {H : Nat → Option Blk} {n : Nat} {g : FuncId} {args : List PV} {K : PV → Eff → Prop} {Hr : List (Nat × Option Blk)} {r : PV} {e : Eff} (h : HCall P g args Hr n r e)
    (h1 : ∀ p ∈ Hr, p.1 ∈ args.flatMap PV.ids ∧ p.1 < n ∧ H p.1 = p.2 ∧ ∀ b, p.2 = some b → b.inL (fun i => (Hr.map (·.1)).contains i) = true)
    (h2 : args.all (PV.inL fun i => (Hr.map (·.1)).contains i) = true) (h3 : ∀ p ∈ e, p.1 ∈ Hr.map (·.1) ∨ (n ≤ p.1 ∧ p.1 < n + 8)) (h4 : K r e) : hcl P H n g args K :=
  ⟨Hr, r, e, h, h1, h2, h3, h4⟩
end Go.Pv


namespace Go.Pv
set_option linter.unusedVariables false
set_option linter.unusedSimpArgs false
open Go Go.RowKit
variable {P : Program}
/-! ### The numbers of new blocks may be changed -/
def ren1 (τ : Nat → Nat) : PV → PV
  | .sl id off n tot => .sl (τ id) off n tot
  | .ptr id i j tot => .ptr (τ id) i j tot
  | p => p
def leafR : PV → Bool
  | .sl .. | .ptr .. | .any => true
  | p => pur1 p
def ren2 (τ : Nat → Nat) : PV → PV
  | .agg l => .agg (l.map (ren1 τ))
  | p => ren1 τ p
def leaf2 : PV → Bool
  | .agg l => l.all leafR
  | p => leafR p
def renP (τ : Nat → Nat) : PV → PV
  | .tup l => .tup (l.map (ren2 τ))
  | p => ren2 τ p
def okR : PV → Bool
  | .tup l => l.all leaf2
  | p => leaf2 p
structure Ren (τ : Nat → Nat) (c c' : Cx) : Prop where
  w : c'.w = c.w
  ow : c'.ow = c.ow
  loc : ∀ id, c'.loc (τ id) = c.loc id
  A : ∀ id, c'.A (τ id) ↔ c.A id
  H : ∀ id, c'.H (τ id) = c.H id
theorem Ren.bare {τ : Nat → Nat} {c c' : Cx} (h : Ren τ c c') {p : PV} {v : Value} (r : Rep c true p v) : Rep c' true p v :=
  @Rep.bare c c' (fun b h1 h2 => by rw [h.w, h.ow]; exact ⟨h1, h2, fun _ => rfl⟩) true rfl _ _ r
theorem ren1_ok {τ : Nat → Nat} {c c' : Cx} (h : Ren τ c c') {p : PV} {v : Value} (hl : leafR p = true) (r : Rep c false p v) : Rep c' false (ren1 τ p) v := by
  cases p with
  | sl id off n tot =>
    cases r with
    | sl _ _ _ _ _ ha hs hk => exact .sl _ off n tot v ((h.A id).2 ha) hs fun blk hb => by rw [h.H] at hb; rw [h.loc]; exact hk blk hb
  | ptr id i j tot =>
    cases r with
    | ptr _ _ _ _ _ ha hs hk => exact .ptr _ i j tot v ((h.A id).2 ha) hs fun blk hb => by rw [h.H] at hb; rw [h.loc]; exact hk blk hb
  | any => exact .any ..
  | _ => exact (h.bare (r.pur hl)).loose
theorem repL_map {c c' : Cx} {f : PV → PV} {ok : PV → Bool} {vs : Array Value} (hf : ∀ p v, ok p = true → Rep c false p v → Rep c' false (f p) v) (l : List PV) (hl : l.all ok = true) (hr : ∀ (i : Nat) q v, l[i]? = some q → vs[i]? = some v → Rep c false q v) : ∀ (i : Nat) q v, (l.map f)[i]? = some q → vs[i]? = some v → Rep c' false q v := fun i q v h1 h2 => by
  rw [List.getElem?_map] at h1
  cases h : l[i]? with
  | none => rw [h] at h1; cases h1
  | some p =>
    rw [h] at h1
    cases h1
    exact hf p v (List.all_eq_true.1 hl p (List.mem_of_getElem? h)) (hr i p v h h2)
theorem ren2_ok {τ : Nat → Nat} {c c' : Cx} (h : Ren τ c c') {p : PV} {v : Value} (hl : leaf2 p = true) (r : Rep c false p v) : Rep c' false (ren2 τ p) v := by
  cases p with
  | agg l =>
    cases r with
    | agg _ _ vs h1 h2 => exact .agg _ _ vs (by rw [List.length_map]; exact h1) (repL_map (fun p v => ren1_ok h) l hl h2)
  | _ => (refine ren1_ok h ?_ r; exact hl)
theorem renP_ok {τ : Nat → Nat} {c c' : Cx} (h : Ren τ c c') {p : PV} {v : Value} (hl : okR p = true) (r : Rep c false p v) : Rep c' false (renP τ p) v := by
  cases p with
  | tup l =>
    cases r with
    | tup _ _ vs h1 h2 => exact .tup _ _ vs (by rw [List.length_map]; exact h1) (repL_map (fun p v => ren2_ok h) l hl h2)
  | _ => (refine ren2_ok h ?_ r; exact hl)
theorem on_ren {τ : Nat → Nat} (hi : ∀ id, τ (τ id) = id) : ∀ (e : Eff) (H : Nat → Option Blk) (id : Nat), Eff.on (e.map fun p => (τ p.1, p.2)) (fun i => H (τ i)) id = e.on H (τ id)
  | [], H, id => rfl
  | (i, b) :: e, H, id => by
    show Eff.on (e.map fun p => (τ p.1, p.2)) (put (fun i => H (τ i)) (τ i) b) id = Eff.on e (put H i b) (τ id)
    have : put (fun i => H (τ i)) (τ i) b = fun j => put H i b (τ j) := by
      funext j
      unfold put
      by_cases h : i = τ j
      · rw [if_pos h, if_pos (by rw [h, hi])]
      · rw [if_neg h, if_neg (fun h2 => h (by rw [← h2, hi]))]
    rw [this]
    exact on_ren hi e _ id
theorem hcall_ren {f : FuncId} {ps : List PV} {n : Nat} {r : PV} {e : Eff} (h : HCall P f ps [] n r e) (τ : Nat → Nat) (hi : ∀ id, τ (τ id) = id) (hlo : ∀ id, id < n → τ id = id) (hr : okR r = true) (he : ∀ p ∈ e, n ≤ p.1 ∧ ∀ b, p.2 = some b → b.box = false) :
    HCall P f ps [] n (renP τ r) (e.map fun p => (τ p.1, p.2)) := by
  refine ⟨h.1, fun c B vs hok hH hfresh ha => (h.2 c B vs hok hH hfresh ha).mono ?_⟩
  rintro en w' ⟨v, c', rfl, hw, hrep, hp⟩
  have hhi : ∀ id, n ≤ id → n ≤ τ id := fun id hid => by
    rcases Nat.lt_or_ge (τ id) n with h1 | h1
    · have := hlo _ h1
      rw [hi] at this
      omega
    · exact h1
  have hHn : c.H = fun _ => none := by rw [hH]; rfl
  have hcA : ∀ id, c.A (τ id) ↔ c.A id := fun id => by
    rcases Nat.lt_or_ge id n with h1 | h1
    · rw [hlo id h1]
    · exact ⟨fun h => absurd h (hfresh _ (hhi id h1)), fun h => absurd h (hfresh _ h1)⟩
  let c2 : Cx := { w := c'.w, loc := fun id => c'.loc (τ id), H := fun id => c'.H (τ id), A := fun id => c'.A (τ id), ow := c'.ow, pk := c'.pk }
  have hren : Ren τ c' c2 := ⟨rfl, rfl, fun id => by show c'.loc (τ (τ id)) = _; rw [hi], fun id => by show c'.A (τ (τ id)) ↔ _; rw [hi], fun id => by show c'.H (τ (τ id)) = _; rw [hi]⟩
  have hbox : ∀ id blk, c'.H id = some blk → blk.box = false := fun id blk hb => by
    rw [hp.H, hHn] at hb
    rcases eff_mem hb with h1 | h1
    · obtain ⟨p, hpm, hpe⟩ := List.mem_map.1 h1
      have key : ∀ (e : Eff) (H0 : Nat → Option Blk), (∀ p ∈ e, ∀ b, p.2 = some b → b.box = false) → (∀ b, H0 id = some b → b.box = false) → ∀ b, Eff.on e H0 id = some b → b.box = false := by
        intro e
        induction e with
        | nil => intro H0 _ h2 b hb; exact h2 b hb
        | cons q e ih =>
          intro H0 h1 h2 b hb
          refine ih (put H0 q.1 q.2) (fun p hp => h1 p (by simp [hp])) (fun b hb => ?_) b hb
          rw [put_at] at hb
          split at hb
          · exact h1 q (by simp) b hb
          · exact h2 b hb
      exact key e _ (fun p hp => (he p hp).2) (fun b hb => by cases hb) blk hb
    · cases h1
  refine ⟨v, c2, rfl, hw, renP_ok hren hr hrep, ?_⟩
  refine ⟨⟨fun b h1 h2 => hp.le.stable b h1 h2, fun id h1 => ?_, fun id blk' h1 h2 => ?_, fun b hb => hp.le.park b hb⟩, ⟨fun id blk hb => ?_, fun id blk g h1 h2 => hp.heap.own (τ id) blk g h1 h2, fun i1 i2 b1 b2 g h1 h2 g1 g2 => ?_, hp.heap.base, hp.heap.lt, fun b hb => let ⟨h1, h2, h3⟩ := hp.heap.pk b hb; ⟨h1, ⟨h2.1, fun id blk h => h2.2 (τ id) blk h⟩, h3⟩⟩, ?_, fun id => ?_, hp.below, hp.ow, fun b hb => ?_, fun b hb => hp.pkn b hb⟩
  · show c'.A (τ id)
    have : id < n := Nat.lt_of_not_le fun h2 => hfresh id h2 h1
    rw [hlo id this]
    exact hp.le.all id h1
  · have hid : id < n := Nat.lt_of_not_le fun h3 => hfresh id h3 h1
    have h2' : c'.H (τ id) = some blk' := h2
    rw [hlo id hid] at h2'
    obtain ⟨blk, k1, k2, k3, k4, k5⟩ := hp.le.ids id blk' h1 h2'
    refine ⟨blk, k1, k2, k3, k4, fun h => ?_⟩
    show c'.loc (τ id) = c.loc id
    rw [hlo id hid]
    exact k5 h
  · have hb' : c'.H (τ id) = some blk := hb
    obtain ⟨k1, k2⟩ := hp.heap.ok (τ id) blk hb'
    refine ⟨k1, ?_⟩
    unfold BlkOk at k2 ⊢
    rw [hbox _ _ hb'] at k2 ⊢
    obtain ⟨us, e1, e2⟩ := k2
    exact ⟨us, e1, e2.1, fun i j h1 h2 => let ⟨u, a, b, d⟩ := e2.2 i j h1 h2; ⟨u, a, hren.bare b, d⟩⟩
  · have := hp.heap.inj (τ i1) (τ i2) b1 b2 g h1 h2 g1 g2
    rw [← hi i1, this, hi]
  · funext id
    show c'.H (τ id) = _
    rw [hp.H, hHn]
    exact (on_ren hi e (fun _ => none) id).symm
  · show c'.A (τ id) ↔ _
    rw [hp.A, hcA]
    refine ⟨fun h => h.imp_right fun h => ?_, fun h => h.imp_right fun h => ?_⟩
    · obtain ⟨p, h1, h2⟩ := List.mem_map.1 h
      exact List.mem_map.2 ⟨(τ p.1, p.2), List.mem_map.2 ⟨p, h1, rfl⟩, by show τ p.1 = id; rw [h2, hi]⟩
    · obtain ⟨p, h1, h2⟩ := List.mem_map.1 h
      obtain ⟨q, h3, rfl⟩ := List.mem_map.1 h1
      exact List.mem_map.2 ⟨q, h3, by rw [← h2]; exact (hi q.1).symm⟩
  · obtain ⟨k1, k2, k3⟩ := hp.only b hb
    exact ⟨⟨k1.1, fun id blk h1 => k1.2 (τ id) blk h1⟩, k2, k3⟩
def tr : List (Nat × Nat) → Nat → Nat
  | [], id => id
  | (a, b) :: r, id => if id = a then b else if id = b then a else tr r id
def trF (l : List (Nat × Nat)) : List Nat := l.flatMap fun p => [p.1, p.2]
theorem tr_mem : ∀ (l : List (Nat × Nat)) (id : Nat), tr l id = id ∨ tr l id ∈ trF l
  | [], id => .inl rfl
  | (a, b) :: r, id => by
    unfold tr
    split
    · right; simp [trF]
    · split
      · right; simp [trF]
      · rcases tr_mem r id with h | h
        · exact .inl h
        · right
          simp only [trF, List.flatMap_cons, List.mem_append]
          exact .inr h
theorem tr_inv : ∀ {l : List (Nat × Nat)} (_ : (trF l).Nodup) (id : Nat), tr l (tr l id) = id
  | [], _, id => rfl
  | (a, b) :: r, h, id => by
    simp only [trF, List.flatMap_cons, List.cons_append, List.nil_append, List.nodup_cons, List.mem_cons, not_or] at h
    obtain ⟨⟨hab, ha⟩, hb, hr⟩ := h
    by_cases h1 : id = a
    · subst h1
      have : tr ((id, b) :: r) id = b := by unfold tr; rw [if_pos rfl]
      rw [this]
      unfold tr
      rw [if_neg (Ne.symm hab), if_pos rfl]
    · by_cases h2 : id = b
      · subst h2
        have : tr ((a, id) :: r) id = a := by unfold tr; rw [if_neg h1, if_pos rfl]
        rw [this]
        unfold tr
        rw [if_pos rfl]
      · have : tr ((a, b) :: r) id = tr r id := by show (if id = a then b else if id = b then a else tr r id) = _; rw [if_neg h1, if_neg h2]
        rw [this]
        have h3 : ¬ tr r id = a := by
          rcases tr_mem r id with h | h
          · rwa [h]
          · intro he; rw [he] at h; exact ha h
        have h4 : ¬ tr r id = b := by
          rcases tr_mem r id with h | h
          · rwa [h]
          · intro he; rw [he] at h; exact hb h
        show (if tr r id = a then b else if tr r id = b then a else tr r (tr r id)) = id
        rw [if_neg h3, if_neg h4]
        exact tr_inv hr id
theorem tr_lo : ∀ {l : List (Nat × Nat)} {n : Nat} (_ : (trF l).all (fun x => decide (n ≤ x)) = true) (id : Nat), id < n → tr l id = id
  | [], _, _, id, _ => rfl
  | (a, b) :: r, n, h, id, hid => by
    simp only [trF, List.flatMap_cons, List.cons_append, List.nil_append, List.all_cons, Bool.and_eq_true, decide_eq_true_eq] at h
    show (if id = a then b else if id = b then a else tr r id) = id
    rw [if_neg (by omega), if_neg (by omega)]
    exact tr_lo h.2.2 id hid
theorem hcall_tr {f : FuncId} {ps : List PV} {n : Nat} {r : PV} {e : Eff} (h : HCall P f ps [] n r e) (l : List (Nat × Nat)) (hn : (trF l).Nodup) (hlo : (trF l).all (fun x => decide (n ≤ x)) = true) (hr : okR r = true) (he : ∀ p ∈ e, n ≤ p.1 ∧ ∀ b, p.2 = some b → b.box = false) :
    HCall P f ps [] n (renP (tr l) r) (e.map fun p => (tr l p.1, p.2)) := hcall_ren h (tr l) (tr_inv hn) (tr_lo hlo) hr he
end Go.Pv


namespace Go.Pv
set_option linter.unusedVariables false
set_option linter.unusedSimpArgs false
open Go Go.RowKit
variable {P : Program} {nt n0 : Nat}
/-! ### Two blocks' numbers change places -/
def sw2 (i j id : Nat) : Nat := if id = i then j else if id = j then i else id
def renW (τ : Nat → Nat) (p : PV) : PV := if okR p = true then renP τ p else .any
def purB : Option Blk → Bool
  | none => true
  | some b => b.cs.pur
end Go.Pv


namespace Go.Pv
set_option linter.unusedVariables false
set_option linter.unusedSimpArgs false
open Go Go.RowKit
variable {P : Program} {T : Ty}

/-! ### Data, told in either way -/
def Dat (p : PV) : Prop := ∀ (c : Cx) (Z : Nat → Prop) (v : Value), Rep c true p v → Dm c.fz Z c.w p v
def Und (p : PV) : Prop := ∀ (c : Cx) (v : Value), Dm c.fz c.pk c.w p v → Rep c true p v
theorem Dat.int (k n) : Dat (.int k n) := fun c Z v r => by cases r; exact .int ..
theorem Dat.bool (b) : Dat (.bool b) := fun c Z v r => by cases r; exact .bool ..
theorem Dat.ro {cs : Cells} (h : ∀ i j, i < cs.len → j < cs.w → Dat (cs.get i j)) : Dat (.ro cs) := fun c Z v r => by
  cases r with
  | ro0 _ _ a cp e => exact .ro0 _ _ _ e
  | ro _ _ b off cp f h0 hc hb hlt hcell hr => exact .ro _ b off cp f h0 hc ⟨hb, hlt⟩ hcell fun i j hi hj => h i j hi hj c Z _ (hr i j hi hj)
theorem Und.int (k n) : Und (.int k n) := fun c v r => by cases r; exact .int ..
theorem Und.bool (b) : Und (.bool b) := fun c v r => by cases r; exact .bool ..
theorem Und.ro {cs : Cells} (h : ∀ i j, i < cs.len → j < cs.w → Und (cs.get i j)) : Und (.ro cs) := fun c v r => by
  cases r with
  | ro0 _ a cp e => exact .ro0 _ _ _ _ e
  | ro _ b off cp f h0 hc hb hcell hr => exact .ro _ _ b off cp f h0 hc hb.1 hb.2 hcell fun i j hi hj => h i j hi hj c _ (hr i j hi hj)
theorem HeapOk.bare {c : Cx} {B : Nat} (hH : ∀ id, c.H id = none) (hp : ∀ b, c.pk b → c.ow b ∧ ∃ vs T, c.w.heap[b]? = some (.cells vs T (0, 0))) (hl : ∀ b, c.ow b → b < c.w.heap.size) (hB : B ≤ c.w.heap.size) : HeapOk c B :=
  ⟨(fun id blk h => by rw [hH] at h; cases h), (fun id blk g h => by rw [hH] at h; cases h), (fun i1 i2 b1 b2 g h => by rw [hH] at h; cases h), hB, hl, fun b hb => ⟨(hp b hb).1, ⟨hl b (hp b hb).1, fun id blk h => by rw [hH] at h; cases h⟩, (hp b hb).2⟩⟩

/-- The function, called on a frozen datum, returns this in new memory. -/
def FCall (P : Program) (f : FuncId) (p : PV) (e : TypeId) (cs : Cells) : Prop :=
  (∃ fn, P.funcs[f]? = some fn ∧ (fn.name == "runtime.NumGoroutine") = false ∧ fn.body.isNone = false) ∧
  ∀ (c : Cx) (v : Value), (∀ id, c.H id = none) → (∀ b, ¬ c.pk b) → (∀ b, c.ow b → b < c.w.heap.size) → Rep c true p v →
    Calls P f #[v] c.w fun en w' => ∃ v' c', en = .returned v' ∧ c'.w = w' ∧ Dm c'.fz c'.pk c'.w (.old e cs) v' ∧ Post c c' c.w.heap.size []

theorem fcall_of_own {f : FuncId} {p : PV} {n k : Nat} {cs : Cells} {e : TypeId} (h : HCall P f [p] [] n (.sl n 0 k k) [(n, some ⟨cs, false, e⟩)]) (hk : cs.len = k) (hd : ∀ i j, i < cs.len → j < cs.w → Dat (cs.get i j)) : FCall P f p e cs := by
  refine ⟨h.1, fun c v hH hpk hlt hr => ?_⟩
  let c0 : Cx := { c with A := fun _ => False }
  have hok0 : HeapOk c0 c.w.heap.size := .bare hH (fun b hb => (hpk b hb).elim) hlt (Nat.le_refl _)
  have hr0 : Rep c0 false p v := (@Rep.bare c c0 (fun b h1 h2 => ⟨h1, h2, fun _ => rfl⟩) true rfl _ _ hr).loose
  refine (h.2 c0 c.w.heap.size #[v] hok0 (funext hH) (fun id _ h => h) ⟨rfl, fun i p' v' h1 h2 => ?_⟩).mono ?_
  · cases i with
    | zero => simp at h1 h2; subst h1; subst h2; exact hr0
    | succ i => simp at h1
  rintro en w' ⟨v', c1, rfl, rfl, hrep, hpost⟩
  have hHn : c1.H n = some ⟨cs, false, e⟩ := by rw [hpost.H]; show put c0.H n _ n = _; exact put_same ..
  have hblk := (hpost.heap.ok n _ hHn).2
  unfold BlkOk at hblk
  rw [if_neg (by simp)] at hblk
  obtain ⟨vs, ho, hreps⟩ := hblk
  obtain ⟨hA, ⟨a, cp, hv, hcp⟩, hsl⟩ : c1.A n ∧ (∃ a cp, v' = .slice a k cp ∧ k ≤ cp) ∧ ∀ blk, c1.H n = some blk → blk.box = false ∧ k ≤ blk.cs.len ∧ (blk.cs.len = k → SlOk (c1.loc n) blk.cs.w 0 k k v') := by
    cases hrep with
    | sl _ _ _ _ _ h1 h2 h3 => exact ⟨h1, h2, h3⟩
  obtain ⟨_, _, hso⟩ := hsl _ hHn
  have hso := (hso hk).2.1 ⟨rfl, rfl⟩
  have fin : ∀ Z : Nat → Prop, (∀ b, Z b → c.w.heap.size ≤ b ∧ c1.ow b ∧ ∃ arr T', c1.w.heap[b]? = some (.cells arr T' (0, 0))) → Dm c1.fz Z c1.w (.old e cs) v' →
      ∃ v'' c', Ending.returned v' = .returned v'' ∧ c'.w = c1.w ∧ Dm c'.fz c'.pk c'.w (.old e cs) v'' ∧ Post c c' c.w.heap.size [] := by
    intro Z hZ hdm
    let c' : Cx := { w := c1.w, loc := c.loc, H := fun _ => none, A := c.A, ow := c1.ow, pk := Z }
    refine ⟨v', c', rfl, rfl, hdm, ⟨⟨hpost.le.stable, fun _ h => h, (fun id b _ h => by cases h), fun b hb => (hpk b hb).elim⟩, .bare (fun _ => rfl) (fun b hb => (hZ b hb).2) hpost.heap.lt hpost.heap.base, (funext hH).symm, fun id => by show c.A id ↔ c.A id ∨ id ∈ []; simp, hpost.below, fun b hb ho => hpost.ow b hb ho, fun b hb => ?_, fun b hb => .inr fun h => by have h1 := (hZ b hb).1; have := h.1; omega⟩⟩
    have h1 := hpost.only b ⟨hb.1, fun id blk h => by rw [show c0.H id = none from hH id] at h; cases h⟩
    exact ⟨⟨h1.1.1, fun id blk h => by cases h⟩, h1.2.1, h1.2.2⟩
  rcases ho.2 with ⟨hV, h0⟩ | ⟨g, cap, cur, hV, hB, hh, hnc, hcm, hcs, htake⟩
  · have h0 : cs.len = 0 := h0
    refine fin (fun _ => False) (fun b h => h.elim) ?_
    rw [hv]
    have : k = 0 := by omega
    subst this
    exact .old0 _ _ _ _ h0
  · by_cases h0 : cs.len = 0
    · refine fin (fun _ => False) (fun b h => h.elim) ?_
      rw [hv]
      have : k = 0 := by omega
      subst this
      exact .old0 _ _ _ _ h0
    · have hvV : v' = c1.loc n := hso.resolve_right fun h => by rw [hV] at h; cases h.1
      rw [hV] at hvV
      have hnc : cs.len ≤ cap := hnc
      refine fin (fun b => b = g) (fun b h => ⟨h ▸ hB, h ▸ hpost.heap.own n _ g hHn (by rw [hV]; rfl), h ▸ ⟨_, _, hh⟩⟩) ?_
      rw [hvV]
      have hex : ∀ i j, ∃ u, i < cs.len → j < cs.w → cur[0 + (i * cs.w + j)]? = some u ∧ u.oneCell' = true ∧ Rep c1 true (cs.get i j) u := by
        intro i j
        by_cases hi : i < cs.len
        · by_cases hj : j < cs.w
          · obtain ⟨u, h1, h2, h3⟩ := hreps.2 i j hi hj
            refine ⟨u, fun _ _ => ⟨?_, h3, h2⟩⟩
            have hlt : i * cs.w + j < cs.len * cs.w := idx_lt hi hj
            have htake : cur.toList.take (cs.len * cs.w) = vs := htake
            rw [← htake, List.getElem?_take_of_lt hlt] at h1
            rw [Nat.zero_add]
            simpa using h1
          · exact ⟨undef, fun _ h => absurd h hj⟩
        · exact ⟨undef, fun h => absurd h hi⟩
      let F : Nat → Nat → Value := fun i j => Classical.choose (hex i j)
      have hF : ∀ i j, i < cs.len → j < cs.w → _ := fun i j => Classical.choose_spec (hex i j)
      exact .old e cs g 0 cap cur F (by omega) hnc rfl hh (fun i j hi hj => ⟨(hF i j hi hj).1, (hF i j hi hj).2.1⟩) fun i j hi hj => hd i j hi hj c1 _ _ (hF i j hi hj).2.2

theorem FCall.at_ {f : FuncId} {p : PV} {e : TypeId} {cs : Cells} (h : FCall P f p e cs) {c : Cx} {B : Nat} {v : Value} (hok : HeapOk c B) (hH : ∀ id, c.H id = none) (hr : Rep c true p v) :
    Calls P f #[v] c.w fun en w' => ∃ v' c', en = .returned v' ∧ c'.w = w' ∧ Dm c'.fz c'.pk c'.w (.old e cs) v' ∧ Post c c' B [] ∧ ∀ b, c'.pk b → c.pk b ∨ c.w.heap.size ≤ b := by
  let c0 : Cx := { c with pk := fun _ => False }
  have hr0 : Rep c0 true p v := @Rep.bare c c0 (fun b h1 h2 => ⟨h1, h2, fun _ => rfl⟩) true rfl _ _ hr
  refine (h.2 c0 v hH (fun b h => h) hok.lt hr0).mono ?_
  rintro en w' ⟨v', c1, rfl, rfl, hd, hpost⟩
  have hidle : ∀ b, b < c.w.heap.size → c0.idle b := fun b hb => ⟨hb, fun id blk h => by rw [show c0.H id = none from hH id] at h; cases h⟩
  have hH1 : ∀ id, c1.H id = none := fun id => by rw [hpost.H]; exact hH id
  let c' : Cx := { c1 with pk := fun b => c1.pk b ∨ c.pk b }
  have hpk1 : ∀ b, c1.pk b → c.w.heap.size ≤ b := fun b hb => (hpost.pkn b hb).elim (fun h => h.elim) fun h => Nat.le_of_not_lt fun hlt => h (hidle b hlt)
  have hold : ∀ b, c.pk b → c1.ow b ∧ c1.w.heap[b]? = c.w.heap[b]? := fun b hb => by
    obtain ⟨k1, k2, k3⟩ := hok.pk b hb
    obtain ⟨k4, k5, k6⟩ := hpost.only b (hidle b k2.1)
    exact ⟨k6 k1, k5⟩
  have hok' : HeapOk c' B := .bare hH1 (fun b hb => by
    rcases hb with hb | hb
    · exact ⟨(hpost.heap.pk b hb).1, (hpost.heap.pk b hb).2.2⟩
    · obtain ⟨vs, T', e'⟩ := (hok.pk b hb).2.2
      exact ⟨(hold b hb).1, vs, T', (hold b hb).2.trans e'⟩) hpost.heap.lt (Nat.le_trans hok.base hpost.heap.base)
  refine ⟨v', c', rfl, rfl, hd.mono (fun b hb => ⟨hb, fun _ => rfl⟩) (fun b hb => ⟨.inl hb, rfl⟩), ⟨⟨hpost.le.stable, hpost.le.all, hpost.le.ids, fun b hb => ⟨.inr hb, (hold b hb).2⟩⟩, hok', hpost.H, hpost.A, ⟨hpost.below.os, hpost.below.tape, hpost.below.output, hpost.below.size, fun k hk => hpost.below.block k (Nat.lt_of_lt_of_le hk hok.base)⟩, fun b hb ho => hpost.ow b (Nat.lt_of_lt_of_le hb hok.base) ho, fun b hb => hpost.only b hb, fun b hb => ?_⟩, fun b hb => hb.elim (fun h => .inr (hpk1 b h)) .inl⟩
  rcases hb with hb | hb
  · exact .inr fun h => by have := hpk1 b hb; have := h.1; omega
  · exact .inl hb

theorem FCall.hcall {f : FuncId} {p : PV} {e : TypeId} {cs : Cells} (h : FCall P f p e cs) (hp : pur1 p = true) (n : Nat) : HCall P f [p] [] n (.old e cs) [] := by
  refine ⟨h.1, fun c B vs hok hH hfr hargs => ?_⟩
  obtain ⟨v, rfl⟩ : ∃ v, vs = #[v] := by
    have := hargs.1
    simp at this
    obtain ⟨l⟩ := vs
    match l, this with
    | [x], _ => exact ⟨x, rfl⟩
  have hr : Rep c true p v := (hargs.2 0 p v rfl rfl).pur hp
  refine (h.at_ hok (fun id => by rw [hH]; rfl) hr).mono ?_
  rintro en w' ⟨v', c', h1, h2, h3, h4, _⟩
  exact ⟨v', c', h1, h2, .old _ _ _ h3, h4⟩
end Go.Pv


namespace Go.Pv
set_option linter.unusedVariables false
set_option linter.unusedSimpArgs false
open Go Go.RowKit
variable {P : Program} {T : Ty} {nt : Nat}

/-! ### Straight code over values themselves -/
def lkV : List (Nat × Value) → Nat → Option Value
  | [], _ => none
  | (i, v) :: r, t => if i = t then some v else lkV r t
structure XA (nt : Nat) (ds : List Deferred) (l : List (Nat × Value)) (a : Act) : Prop where
  sz : a.tmps.size = nt
  ds : a.defers = ds
  v : ∀ t v, lkV l t = some v → a.tmps.getD t undef = v
def evX (l : List (Nat × Value)) : Operand → Option Value
  | .tmp t => lkV l t
  | .const v => some v
  | _ => none
theorem evX_ok {ds : List Deferred} {l : List (Nat × Value)} {a : Act} {x : Operand} {v : Value} (h : XA nt ds l a) (he : evX l x = some v) : a.eval x = v := by
  cases x with
  | tmp t => exact h.v t v he
  | const u => simp [evX] at he; subst he; rfl
  | _ => cases he
def xput (nt : Nat) (d : Option Nat) (v : Value) (l : List (Nat × Value)) : List (Nat × Value) := match d with
  | some d => if d < nt then (d, v) :: l else l
  | none => l
theorem XA.put {ds : List Deferred} {l : List (Nat × Value)} {a : Act} (h : XA nt ds l a) (d : Option Nat) (v : Value) : XA nt ds (xput nt d v l) (a.put d v) := by
  refine ⟨by rw [put_size]; exact h.sz, by rw [put_defers]; exact h.ds, fun t u hu => ?_⟩
  cases d with
  | none => exact h.v t u hu
  | some d =>
    unfold xput at hu
    dsimp only at hu
    split at hu
    · rename_i hd
      unfold lkV at hu
      split at hu
      · rename_i ht
        subst ht
        cases hu
        simp [Act.put, h.sz, hd, Array.getD_eq_getD_getElem?]
      · rename_i ht
        have := h.v t u hu
        rw [← this]
        simp [Act.put, Array.getD_eq_getD_getElem?, Array.getElem?_setIfInBounds, ht]
    · rename_i hd
      have := h.v t u hu
      rw [← this]
      simp only [Act.put, Array.getD_eq_getD_getElem?]
      rw [Array.getElem?_setIfInBounds]
      split
      · rename_i e
        subst e
        rw [if_neg (by rw [h.sz]; exact hd), Array.getElem?_eq_none (by rw [h.sz]; omega)]
      · rfl

def FnOk (P : Program) (g : FuncId) : Prop := ∃ fn, P.funcs[g]? = some fn ∧ (fn.name == "runtime.NumGoroutine") = false ∧ fn.body.isNone = false
/-- What an operation gives, of values that are known. -/
def xop (P : Program) (T : Ty) (o : Oper) (l : List (Nat × Value)) (w : World) (K : Value → World → Prop) : Prop := match o.op with
  | .move x | .assign x => match evX l x with
    | some v => K v w
    | none => False
  | .binOp op t x y u => match evX l x, evX l y with
    | some (.int k a), some (.int k' b) => (match op with
      | .lss => k' = k ∧ K (.bool (decide (a < b))) w
      | .add => k' = k ∧ K (.int k (k.wrap (a + b))) w
      | _ => False)
    | _, _ => False
  | .indexAddr t x ix => match evX l x, evX l ix, T t with
    | some (.slice (some ⟨b, q, none⟩) n cp), some (.int k i), some ti => (match ti.k with
      | .slice e => (match T e with
        | some te => 0 ≤ i ∧ i < n ∧ K (.pointer (some ⟨b, q + i.toNat * te.sz, none⟩)) w
        | none => False)
      | _ => False)
    | _, _, _ => False
  | .fieldAddr t x f => match evX l x, T t with
    | some (.pointer (some ⟨b, q, none⟩)), some ti => (match ti.k with
      | .struct fs => (match fs[f]? with
        | some (ft, off) => (match T ft with
          | some tf => 0 < tf.sz ∧ K (.pointer (some ⟨b, q + off, none⟩)) w
          | none => False)
        | none => False)
      | _ => False)
    | _, _ => False
  | .load t x => match evX l x, T t with
    | some (.pointer (some ⟨b, q, none⟩)), some ti => ti.k.agg = false ∧ ∃ v, w.cell? ⟨b, q, none⟩ = some v ∧ K v w
    | _, _ => False
  | .store t x y => match evX l x, evX l y, T t with
    | some (.pointer (some ⟨b, q, none⟩)), some v, some ti => ti.sz = 1 ∧ v.cells = #[v] ∧ v.oneCell' = true ∧ ∃ arr e, w.heap[b]? = some (.cells arr e (0, 0)) ∧ q < arr.size ∧ K undef (w.setRow b (arr.toList.take q ++ [v] ++ arr.toList.drop (q + 1)).toArray)
    | _, _, _ => False
  | .call c => match c.callee, c.args.toList, c.argTypes.toList with
    | .builtin .len, [x], [t] => (match evX l x, T t with
      | some (.slice A n cp), some ti => (match ti.k with
        | .slice e => K (.int .i64 n) w
        | _ => False)
      | _, _ => False)
    | .value (.func g), [x], _ => (match evX l x with
      | some v => FnOk P g ∧ Calls P g #[v] w fun en w' => ∃ v', en = .returned v' ∧ K v' w'
      | none => False)
    | _, _, _ => False
  | _ => False

theorem xop_ok (hT : TyOk P T) {ds : List Deferred} {o : Oper} {l : List (Nat × Value)} {a : Act} {w : World} {K : Value → World → Prop} {next : Act → World → Prop} {Q : Exit → Act → World → Prop} (ha : XA nt ds l a) (h : xop P T o l w K) (hn : ∀ v w', K v w' → next (a.put o.dst v) w') : o.wp P a w next Q := by
  have pure_ : ∀ {s : Sem Value} {v : Value}, execOp a.eval o = (do pure (.value (← s))) → s.run P w = .ok v w → K v w → o.wp P a w next Q := fun he hr hk => by
    unfold Oper.wp
    rw [he]
    simp only [Sem.run_bind, hr, Result.andThen_ok, Sem.run_pure]
    exact hn _ _ hk
  unfold xop at h
  split at h
  · rename_i x hop
    split at h
    · rename_i v he
      unfold Oper.wp
      simp only [execOp, hop, Sem.run_pure, evX_ok ha he]
      exact hn _ _ h
    · exact h.elim
  · rename_i x hop
    split at h
    · rename_i v he
      unfold Oper.wp
      simp only [execOp, hop, Sem.run_pure, evX_ok ha he]
      exact hn _ _ h
    · exact h.elim
  · rename_i op t x y u hop
    split at h
    · rename_i k a1 k' b1 he1 he2
      have hb : ∀ {K' : PV → Prop}, bin T t op (.int k a1) (.int k' b1) K' → ∃ r pv, (do eqGuard op t x y (a.eval x) (a.eval y); binOp op t (a.eval x) (a.eval y) : Sem Value).run P w = .ok r w ∧ Rep (see (fun _ => False) w) false pv r ∧ K' pv := fun h' => by
        rw [evX_ok ha he1, evX_ok ha he2]
        exact bin_ok hT (c := see (fun _ => False) w) (.int _ k a1) (.int _ k' b1) h'
      split at h
      · obtain ⟨rfl, hk⟩ := h
        obtain ⟨r, pv, h1, h2, h3⟩ := hb (K' := fun pv => pv = .bool (decide (a1 < b1))) (by simp [bin, ops2])
        subst h3
        cases h2
        exact pure_ (by simp only [execOp, hop]) h1 hk
      · obtain ⟨rfl, hk⟩ := h
        obtain ⟨r, pv, h1, h2, h3⟩ := hb (K' := fun pv => pv = .int k' (k'.wrap (a1 + b1))) (by simp [bin, ops2])
        subst h3
        cases h2
        exact pure_ (by simp only [execOp, hop]) h1 hk
      · exact h.elim
    · exact h.elim
  · rename_i t x ix hop
    split at h
    · rename_i b q n cp k i ti he1 he2 ht
      split at h
      · rename_i e hk
        split at h
        · rename_i te hte
          obtain ⟨h0, h1, hK⟩ := h
          exact pure_ (s := Instr.indexAt t (a.eval x) (a.eval ix)) (by simp only [execOp, hop]) (by rw [evX_ok ha he1, evX_ok ha he2]; exact index_run hT ht hk hte b q n cp k i h0 h1 w) hK
        · exact h.elim
      · exact h.elim
    · exact h.elim
  · rename_i t x f hop
    split at h
    · rename_i b q ti he1 ht
      split at h
      · rename_i fs hk
        split at h
        · rename_i ft off hf
          split at h
          · rename_i tf htf
            obtain ⟨h0, hK⟩ := h
            exact pure_ (s := Instr.fieldAt t (a.eval x) f) (by simp only [execOp, hop]) (by rw [evX_ok ha he1]; exact field_run hT ht hk hf htf h0 b q w) hK
          · exact h.elim
        · exact h.elim
      · exact h.elim
    · exact h.elim
  · rename_i t x hop
    split at h
    · rename_i b q ti he1 ht
      obtain ⟨hk, v, hc, hK⟩ := h
      obtain ⟨d, hd, hd', _⟩ := plain_of hT ht hk
      refine pure_ (s := Instr.loadAt t (a.eval x)) (by simp only [execOp, hop]) ?_ hK
      rw [evX_ok ha he1]
      simp only [Instr.loadAt, Instr.sureAddr, loadVar, Sem.run_bind, Sem.run_pure, Result.andThen_ok, isAgg_run hd, hd', Bool.false_eq_true, if_false]
      simp [load, Sem.run, hc]
    · exact h.elim
  · rename_i t x y hop
    split at h
    · rename_i b q v ti he1 he2 ht
      obtain ⟨hs, hcs, h1, arr, e, hh, hq, hK⟩ := h
      have hrun := run_storeCells_at P b q e [v] 0 arr w hh (by simp; omega) (fun u hu => by simp at hu; subst hu; exact h1)
      simp only [Nat.add_zero, List.length_singleton] at hrun
      have hex : (execOp a.eval o).run P w = .ok .skip (w.setRow b (arr.toList.take q ++ [v] ++ arr.toList.drop (q + 1)).toArray) := by
        simp only [execOp, hop, evX_ok ha he1, evX_ok ha he2, Instr.storeAt, Instr.sureAddr, storeVar, Sem.run_bind, Sem.run_pure, Result.andThen_ok, sizeOf_run hT ht, hcs, hs, List.size_toArray, List.length_singleton, ne_eq, not_true_eq_false, if_false, hrun]
      unfold Oper.wp
      rw [hex]
      exact hn _ _ hK
    · exact h.elim
  · rename_i c hop
    obtain ⟨callee, args, ats⟩ := c
    obtain ⟨args⟩ := args
    obtain ⟨ats⟩ := ats
    dsimp only at h
    split at h
    · rename_i x t
      split at h
      · rename_i A n cp ti he ht
        split at h
        · rename_i e hk
          refine pure_ (s := Builtin.len_ (List.toArray [t]) o.type ((List.toArray [x]).map a.eval)) ?_ ?_ h
          · simp only [execOp, hop]; rfl
          · have := len_run (hT.slice t ti e ht hk).1 o.type (v := a.eval x) (r := n) (.inl ⟨e, A, cp, rfl, evX_ok ha he⟩) w
            simpa using this
        · exact h.elim
      · exact h.elim
    · rename_i g x
      split at h
      · rename_i v he
        obtain ⟨⟨fn, h1, h2, h3⟩, hcall⟩ := h
        have hrun : (execOp a.eval o).run P w = .ok (.enter g #[v]) w := by
          have hf : a.eval (.func g) = .func (.func g) #[] #[] := rfl
          simp only [execOp, hop, resolve, hf, Deferred.ofValue, Sem.run_bind, Sem.run_pure, Result.andThen_ok, invoke, callFunc, program, Sem.run, h1, h2, h3]
          simp [evX_ok ha he]
        unfold Oper.wp
        rw [hrun]
        refine hcall.mono ?_
        rintro en w' ⟨v', rfl, hk⟩
        exact hn v' w' hk
      · exact h.elim
    · exact h.elim
  · exact h.elim

def xruns (P : Program) (T : Ty) (nt : Nat) : List Oper → List (Nat × Value) → World → (List (Nat × Value) → World → Prop) → Prop
  | [], l, w, K => K l w
  | o :: os, l, w, K => o.guard = none ∧ xop P T o l w fun v w' => xruns P T nt os (xput nt o.dst v l) w' K
theorem xruns_ok (hT : TyOk P T) {ds : List Deferred} {ops : Array Oper} {Q : Exit → Act → World → Prop} {K : List (Nat × Value) → World → Prop} (hQ : ∀ l a w, XA nt ds l a → K l w → Q .normal a w) :
    ∀ (os : List Oper) (l : List (Nat × Value)) (a : Act) (w : World), XA nt ds l a → xruns P T nt os l w K → wpList P ops Q os a w
  | [], l, a, w, ha, h => hQ l a w ha h
  | o :: os, l, a, w, ha, ⟨hg, h⟩ => by
    unfold wpList
    have hw : Region.wanted o (yielded ops a.tmps) = true := by unfold Region.wanted; rw [hg]
    rw [hw, if_pos rfl]
    exact .inl (xop_ok hT ha h fun v w' hk => xruns_ok hT hQ os _ _ _ (ha.put o.dst v) hk)
theorem xregion (hT : TyOk P T) {ds : List Deferred} {id : Nat} {os : List Oper} {Q : Exit → Act → World → Prop} {l : List (Nat × Value)} {a : Act} {w : World} (ha : XA nt ds l a) (h : xruns P T nt os l w fun l' w' => ∀ a', XA nt ds l' a' → Q .normal a' w') : (Code.region id os.toArray false).wp P Q a w :=
  wp_region_list (by
    have : os.toArray.toList = os := rfl
    rw [this]
    exact xruns_ok hT (K := fun l' w' => ∀ a', XA nt ds l' a' → Q .normal a' w') (fun l' a' w' h1 h2 => h2 a' h1) os l a w ha h)
theorem lkV_sub {l : List (Nat × Value)} {t : Nat} {v : Value} : ∀ (q : List (Nat × Value)), (∀ p ∈ q, lkV l p.1 = some p.2) → lkV q t = some v → lkV l t = some v
  | [], _, h => by cases h
  | (i, u) :: r, hs, h => by
    have h' : (if i = t then some u else lkV r t) = some v := h
    by_cases e : i = t
    · rw [if_pos e] at h'
      rw [← h', ← e]
      exact hs (i, u) (by simp)
    · rw [if_neg e] at h'
      exact lkV_sub r (fun p hp => hs p (List.mem_cons_of_mem _ hp)) h'
theorem XA.sub {ds : List Deferred} {l l' : List (Nat × Value)} {a : Act} (h : XA nt ds l a) (hs : ∀ p ∈ l', lkV l p.1 = some p.2) : XA nt ds l' a :=
  ⟨h.sz, h.ds, fun t v hv => h.v t v (lkV_sub l' hs hv)⟩
end Go.Pv


namespace Go.Pv
set_option linter.unusedVariables false
set_option linter.unusedSimpArgs false
open Go Go.RowKit
variable {P : Program} {T : Ty} {nt : Nat}

/-! ### A parked block is written: what is told of others holds on -/
/-- No parked block of this type is spoken of. -/
inductive NoT (Te : TypeId) : PV → Prop where
  | int (k n) : NoT Te (.int k n)
  | uint (k) : NoT Te (.uint k)
  | bool (b) : NoT Te (.bool b)
  | str (s) : NoT Te (.str s)
  | ro (cs : Cells) (h : ∀ i j, i < cs.len → j < cs.w → NoT Te (cs.get i j)) : NoT Te (.ro cs)
  | old (T : TypeId) (cs : Cells) (h0 : T ≠ Te) (h : ∀ i j, i < cs.len → j < cs.w → NoT Te (cs.get i j)) : NoT Te (.old T cs)

theorem setRow_size (w : World) (g : Nat) (cs : Array Value) : (w.setRow g cs).heap.size = w.heap.size := by simp [World.setRow]
theorem setRow_cell (w : World) (g b : Nat) (cs : Array Value) (h : b ≠ g) (o : Nat) : (w.setRow g cs).cell? ⟨b, o, none⟩ = w.cell? ⟨b, o, none⟩ := World.cell?_of_block (a := ⟨b, o, none⟩) (setRow_other w g b cs h)

theorem Dm.kept {Te : TypeId} {O Z : Nat → Prop} {w : World} {g : Nat} {arr0 arr : Array Value} (hg : w.heap[g]? = some (.cells arr0 Te (0, 0))) (hO : ¬ O g) {p : PV} {v : Value} (r : Dm O Z w p v) : NoT Te p → Dm O Z (w.setRow g arr) p v := by
  induction r with
  | int k n => intro _; exact .int k n
  | uint k n => intro _; exact .uint k n
  | bool t => intro _; exact .bool t
  | str s => intro _; exact .str s
  | ro0 cs a cp h => intro _; exact .ro0 cs a cp h
  | ro cs b off cp f h0 hc hb hcell _ ih =>
    intro hn
    cases hn with
    | ro _ h => exact .ro cs b off cp f h0 hc hb (fun i j hi hj => ⟨(setRow_cell w g b arr (fun e => hO (e ▸ hb)) _).trans (hcell i j hi hj).1, (hcell i j hi hj).2⟩) fun i j hi hj => ih i j hi hj (h i j hi hj)
  | old0 T cs a cp h => intro _; exact .old0 T cs a cp h
  | old T cs b off cp ar f h0 hc hb hh hcell _ ih =>
    intro hn
    cases hn with
    | old _ _ hT h =>
      have hbg : b ≠ g := fun e => by
        subst e
        rw [hg] at hh
        cases hh
        exact hT rfl
      exact .old T cs b off cp ar f h0 hc hb ((setRow_other w g b arr hbg).trans hh) hcell fun i j hi hj => ih i j hi hj (h i j hi hj)
  | optO => intro hn; cases hn
  | optR => intro hn; cases hn

theorem Dm.fz_set {Z : Nat → Prop} {c : Cx} {g : Nat} {arr : Array Value} {p : PV} {v : Value} (r : Dm c.fz Z (c.w.setRow g arr) p v) : Dm ({ c with w := c.w.setRow g arr } : Cx).fz Z (c.w.setRow g arr) p v :=
  r.mono (fun b hb => ⟨⟨hb.1, by rw [show ({ c with w := c.w.setRow g arr } : Cx).w = c.w.setRow g arr from rfl, setRow_size]; exact hb.2⟩, fun _ => rfl⟩) fun b hb => ⟨hb, rfl⟩

/-- The context behind a store into a new parked block. -/
theorem post_set {c0 c : Cx} {B : Nat} (hpk0 : ∀ b, ¬ c0.pk b) (hH0 : ∀ id, c0.H id = none) (hB : B ≤ c0.w.heap.size) (h : Post c0 c B []) {g : Nat} {arr0 arr : Array Value} {Te : TypeId} (hg : c.w.heap[g]? = some (.cells arr0 Te (0, 0))) (hpk : c.pk g) (hlt : c0.w.heap.size ≤ g) :
    Post c0 { c with w := c.w.setRow g arr } B [] := by
  have hHc : ∀ id, c.H id = none := fun id => by rw [h.H]; exact hH0 id
  have hne : ∀ b, b < c0.w.heap.size → b ≠ g := fun b hb e => by omega
  have hsz : ({ c with w := c.w.setRow g arr } : Cx).w.heap.size = c.w.heap.size := setRow_size ..
  have hok : HeapOk { c with w := c.w.setRow g arr } B := .bare hHc (fun b hb => by
    obtain ⟨h1, _, vs, T', h3⟩ := h.heap.pk b hb
    refine ⟨h1, ?_⟩
    by_cases hbg : b = g
    · subst hbg
      exact ⟨_, _, setRow_heap c.w b arr0 arr Te (0, 0) hg⟩
    · exact ⟨vs, T', (setRow_other c.w g b arr hbg).trans h3⟩) (fun b hb => by rw [hsz]; exact h.heap.lt b hb) (by rw [hsz]; exact h.heap.base)
  refine ⟨⟨fun b hb hlt' => ?_, h.le.all, h.le.ids, fun b hb => (hpk0 b hb).elim⟩, hok, h.H, h.A, ⟨h.below.os, h.below.tape, h.below.output, by rw [hsz]; exact h.below.size, fun k hk => ?_⟩, h.ow, fun b hb => ?_, h.pkn⟩
  · obtain ⟨h1, h2, h3⟩ := h.le.stable b hb hlt'
    exact ⟨h1, by rw [hsz]; exact h2, fun o => (setRow_cell c.w g b arr (hne b hlt') o).trans (h3 o)⟩
  · exact (setRow_other c.w g k arr (hne k (by omega))).trans (h.below.block k hk)
  · obtain ⟨h1, h2, h3⟩ := h.only b hb
    exact ⟨⟨by rw [hsz]; exact h1.1, h1.2⟩, (setRow_other c.w g b arr (hne b hb.1)).trans h2, h3⟩

theorem splice1 (arr : Array Value) (q : Nat) (u : Value) (h : q < arr.size) (k : Nat) : ((arr.toList.take q ++ [u] ++ arr.toList.drop (q + 1)).toArray)[k]? = if k = q then some u else arr[k]? := by
  have this := splice_at arr.toList [u] q k (by simp; omega)
  rw [List.length_singleton] at this
  rw [List.getElem?_toArray, this]
  by_cases h1 : k < q
  · rw [if_pos h1, if_neg (by omega)]; simp
  · rw [if_neg h1]
    by_cases h2 : k = q
    · rw [if_pos (by omega), if_pos h2, h2]; simp
    · rw [if_neg (by omega), if_neg h2]; simp

/-! ### A row of slices, each of which is copied in its place -/
structure TwJ (c0 : Cx) (V : Value) (Te Ti : TypeId) (n : Nat) (A : Nat → Cells) (i : Nat) (c : Cx) : Prop where
  post : Post c0 c c0.w.heap.size []
  new : ∀ b, c.pk b → c0.w.heap.size ≤ b
  V : (n = 0 ∧ ∃ a cp, V = .slice a 0 cp) ∨ ∃ g off cp arr, V = .slice (some ⟨g, off, none⟩) n cp ∧ n ≤ cp ∧ c.pk g ∧ c.w.heap[g]? = some (.cells arr Te (0, 0)) ∧
    ∀ k, k < n → ∃ u, arr[off + k]? = some u ∧ u.oneCell' = true ∧ (k < i → Dm c.fz c.pk c.w (.old Ti (A k)) u) ∧ (i ≤ k → Rep c true (.ro (A k)) u)

theorem tw_start {c0 c : Cx} {V : Value} {Te Ti : TypeId} {n : Nat} {A : Nat → Cells} {cs : Cells} (hpk0 : ∀ b, ¬ c0.pk b) (hH0 : ∀ id, c0.H id = none) (h : Post c0 c c0.w.heap.size []) (hd : Dm c.fz c.pk c.w (.old Te cs) V) (hl : cs.len = n) (hw : cs.w = 1) (hA : ∀ k, k < n → cs.get k 0 = .ro (A k)) (hu : ∀ k, k < n → Und (.ro (A k))) : TwJ c0 V Te Ti n A 0 c := by
  refine ⟨h, fun b hb => (h.pkn b hb).elim (fun h => (hpk0 b h).elim) fun hi => Nat.le_of_not_lt fun hlt => hi ⟨hlt, fun id blk h => by rw [hH0] at h; cases h⟩, ?_⟩
  cases hd with
  | old0 _ _ a cp e => exact .inl ⟨by omega, a, cp, rfl⟩
  | old _ _ b off cp arr f h0 hc hb hh hcell hr =>
    refine .inr ⟨b, off, cp, arr, by rw [hl], by omega, hb, hh, fun k hk => ?_⟩
    have h1 := hcell k 0 (by omega) (by omega)
    have h2 := hr k 0 (by omega) (by omega)
    rw [hw, Nat.mul_one, Nat.add_zero] at h1
    rw [hA k hk] at h2
    exact ⟨_, h1.1, h1.2, fun h => by omega, fun _ => hu k hk c _ h2⟩

theorem tw_cell {c0 c : Cx} {V : Value} {Te Ti : TypeId} {n : Nat} {A : Nat → Cells} {i : Nat} (h : TwJ c0 V Te Ti n A i c) (hi : i < n) : ∃ g off cp u, V = .slice (some ⟨g, off, none⟩) n cp ∧ c.w.cell? ⟨g, off + i, none⟩ = some u ∧ Rep c true (.ro (A i)) u := by
  rcases h.V with ⟨h0, _⟩ | ⟨g, off, cp, arr, rfl, _, hg, hh, hk⟩
  · omega
  · obtain ⟨u, h1, h2, h3, h4⟩ := hk i hi
    refine ⟨g, off, cp, u, rfl, ?_, h4 (Nat.le_refl _)⟩
    simp [World.cell?, hh, h1]

theorem tw_step {c0 c c1 : Cx} {V u : Value} {Te Ti : TypeId} {n : Nat} {A : Nat → Cells} {i : Nat} (hpk0 : ∀ b, ¬ c0.pk b) (hH0 : ∀ id, c0.H id = none) (h : TwJ c0 V Te Ti n A i c) (hi : i < n) {B : Nat} (hB : B = c0.w.heap.size) (hp : Post c c1 B []) (hnew : ∀ b, c1.pk b → c.pk b ∨ c.w.heap.size ≤ b) (hd : Dm c1.fz c1.pk c1.w (.old Ti (A i)) u)
    (hno : ∀ k, k < n → NoT Te (.old Ti (A k))) {g off cp : Nat} (hV : V = .slice (some ⟨g, off, none⟩) n cp) :
    u.cells = #[u] ∧ u.oneCell' = true ∧ ∃ arr, c1.w.heap[g]? = some (.cells arr Te (0, 0)) ∧ off + i < arr.size ∧ ∃ c2 : Cx, c2.w = c1.w.setRow g (arr.toList.take (off + i) ++ [u] ++ arr.toList.drop (off + i + 1)).toArray ∧ TwJ c0 V Te Ti n A (i + 1) c2 := by
  subst hB
  have hu1 : u.cells = #[u] ∧ u.oneCell' = true := by cases hd <;> exact ⟨rfl, rfl⟩
  refine ⟨hu1.1, hu1.2, ?_⟩
  rcases h.V with ⟨h0, _⟩ | ⟨g', off', cp', arr, hV', hcp, hg, hh, hk⟩
  · omega
  · rw [hV] at hV'
    cases hV'
    have hh1 : c1.w.heap[g]? = some (.cells arr Te (0, 0)) := (hp.le.park g hg).2.trans hh
    have hpost : Post c0 c1 c0.w.heap.size [] := h.post.trans hp
    have hpk1 : c1.pk g := (hp.le.park g hg).1
    have hlt : off + i < arr.size := by
      obtain ⟨_, h1, _⟩ := hk i hi
      exact (Array.getElem?_eq_some_iff.1 h1).1
    let arr' : Array Value := (arr.toList.take (off + i) ++ [u] ++ arr.toList.drop (off + i + 1)).toArray
    have harr : ∀ k, arr'[k]? = if k = off + i then some u else arr[k]? := splice1 arr (off + i) u hlt
    let c2 : Cx := { c1 with w := c1.w.setRow g arr' }
    have howg : ¬ c1.fz g := fun h => h.1 (hp.heap.pk g hpk1).1
    have keep : ∀ k, k < n → ∀ v, Dm c1.fz c1.pk c1.w (.old Ti (A k)) v → Dm c2.fz c2.pk c2.w (.old Ti (A k)) v := fun k hk v hd => (hd.kept (arr := arr') hh1 howg (hno k hk)).fz_set
    refine ⟨arr, hh1, hlt, c2, rfl, post_set hpk0 hH0 (Nat.le_refl _) hpost hh1 hpk1 (h.new g hg), fun b hb => ?_, .inr ⟨g, off, cp, arr', hV, hcp, hpk1, setRow_heap c1.w g arr arr' Te (0, 0) hh1, fun k hkn => ?_⟩⟩
    · rcases hnew b hb with h1 | h1
      · exact h.new b h1
      · exact Nat.le_trans h.post.below.size h1
    · by_cases hki : k = i
      · subst hki
        exact ⟨u, by rw [harr, if_pos rfl], hu1.2, fun _ => keep k hkn u hd, fun h => by omega⟩
      · obtain ⟨x, h1, h2, h3, h4⟩ := hk k hkn
        refine ⟨x, by rw [harr, if_neg (by omega)]; exact h1, h2, fun h => keep k hkn x (hp.le.dm (h3 (by omega))), fun h => ?_⟩
        have hr := (h4 (by omega)).mono hp.le
        refine @Rep.bare c1 c2 (fun b hb hlt => ⟨hb, by rw [show c2.w = c1.w.setRow g arr' from rfl, setRow_size]; exact hlt, fun o => setRow_cell c1.w g b arr' (fun e => ?_) o⟩) true rfl _ _ hr
        exact hb (e ▸ (hp.heap.pk g hpk1).1)

theorem tw_end {c0 c : Cx} {V : Value} {Te Ti : TypeId} {n i : Nat} {A : Nat → Cells} {cs : Cells} (h : TwJ c0 V Te Ti n A i c) (hi : n ≤ i) (hl : cs.len = n) (hw : cs.w = 1) (hB : ∀ k, k < n → cs.get k 0 = .old Ti (A k)) : Dm c.fz c.pk c.w (.old Te cs) V := by
  rcases h.V with ⟨h0, a, cp, rfl⟩ | ⟨g, off, cp, arr, rfl, hcp, hg, hh, hk⟩
  · exact .old0 _ _ _ _ (by omega)
  · by_cases hn : n = 0
    · rw [hn]
      exact .old0 _ _ _ _ (by omega)
    · have hex : ∀ k, ∃ u, k < n → arr[off + k]? = some u ∧ u.oneCell' = true ∧ Dm c.fz c.pk c.w (.old Ti (A k)) u := fun k => by
        by_cases hkn : k < n
        · obtain ⟨u, h1, h2, h3, _⟩ := hk k hkn
          exact ⟨u, fun _ => ⟨h1, h2, h3 (by omega)⟩⟩
        · exact ⟨undef, fun h => absurd h hkn⟩
      let F : Nat → Nat → Value := fun k _ => Classical.choose (hex k)
      have hF : ∀ k, k < n → _ := fun k => Classical.choose_spec (hex k)
      rw [← hl]
      refine .old Te cs g off cp arr F (by omega) (by omega) hg hh (fun a b ha hb => ?_) fun a b ha hb => ?_
      · rw [hw] at hb ⊢
        have : b = 0 := by omega
        subst this
        rw [Nat.mul_one, Nat.add_zero]
        exact ⟨(hF a (by omega)).1, (hF a (by omega)).2.1⟩
      · rw [hw] at hb
        have : b = 0 := by omega
        subst this
        rw [hB a (by omega)]
        exact (hF a (by omega)).2.2
end Go.Pv


namespace Go.Pv
set_option linter.unusedVariables false
set_option linter.unusedSimpArgs false
open Go Go.RowKit
variable {P : Program} {T : Ty} {nt : Nat}

theorem Dm.int_eq {O Z : Nat → Prop} {w : World} {k : IntKind} {n : Int} {v : Value} (r : Dm O Z w (.int k n) v) : v = .int k n := by cases r; rfl
theorem Dm.bool_eq {O Z : Nat → Prop} {w : World} {b : Bool} {v : Value} (r : Dm O Z w (.bool b) v) : v = .bool b := by cases r; rfl
/-- Numbers alone: told so in a larger zone. -/
theorem Dm.ints {O O' Z Z' : Nat → Prop} {w w' : World} {Te : TypeId} {k : IntKind} {xs : List Int} {v : Value} (hz : ∀ b, Z b → Z' b ∧ w'.heap[b]? = w.heap[b]?) (r : Dm O Z w (.old Te (.ints k xs)) v) : Dm O' Z' w' (.old Te (.ints k xs)) v := by
  cases r with
  | old0 _ _ a cp e => exact .old0 _ _ _ _ e
  | old _ _ b off cp arr f h0 hc hb hh hcell hr =>
    refine .old Te _ b off cp arr f h0 hc (hz b hb).1 ((hz b hb).2.trans hh) hcell fun i j hi hj => ?_
    have := hr i j hi hj
    simp only [Cells.get] at this ⊢
    rw [this.int_eq]
    exact .int ..

/-- Parked blocks seen as frozen ones. -/
def Cx.thaw (c : Cx) : Cx := { c with ow := fun b => c.ow b ∧ ¬ c.pk b, pk := fun _ => False }
theorem FCall.at2 {f : FuncId} {p : PV} {e : TypeId} {k : IntKind} {xs : List Int} (h : FCall P f p e (.ints k xs)) {c : Cx} {B : Nat} {v : Value} (hok : HeapOk c B) (hH : ∀ id, c.H id = none) (hr : Rep c.thaw true p v) :
    Calls P f #[v] c.w fun en w' => ∃ v' c', en = .returned v' ∧ c'.w = w' ∧ Dm c'.fz c'.pk c'.w (.old e (.ints k xs)) v' ∧ Post c c' B [] ∧ ∀ b, c'.pk b → c.pk b ∨ c.w.heap.size ≤ b := by
  refine (h.2 c.thaw v hH (fun b h => h) (fun b hb => hok.lt b hb.1) hr).mono ?_
  rintro en w' ⟨v', c1, rfl, rfl, hd, hpost⟩
  have hidle : ∀ b, b < c.w.heap.size → c.thaw.idle b := fun b hb => ⟨hb, fun id blk h => by rw [show c.thaw.H id = none from hH id] at h; cases h⟩
  have hH1 : ∀ id, c1.H id = none := fun id => by rw [hpost.H]; exact hH id
  let c' : Cx := { c1 with ow := fun b => c1.ow b ∨ c.pk b, pk := fun b => c1.pk b ∨ c.pk b }
  have hpk1 : ∀ b, c1.pk b → c.w.heap.size ≤ b := fun b hb => (hpost.pkn b hb).elim (fun h => h.elim) fun h => Nat.le_of_not_lt fun hlt => h (hidle b hlt)
  have hold : ∀ b, b < c.w.heap.size → c1.w.heap[b]? = c.w.heap[b]? := fun b hb => (hpost.only b (hidle b hb)).2.1
  have how : ∀ b, b < c.w.heap.size → c.ow b → c'.ow b := fun b hb ho => by
    by_cases hp : c.pk b
    · exact .inr hp
    · exact .inl ((hpost.only b (hidle b hb)).2.2 ⟨ho, hp⟩)
  have hok' : HeapOk c' B := .bare hH1 (fun b hb => by
    rcases hb with hb | hb
    · exact ⟨.inl (hpost.heap.pk b hb).1, (hpost.heap.pk b hb).2.2⟩
    · obtain ⟨k1, k2, vs, T', e'⟩ := hok.pk b hb
      exact ⟨.inr hb, vs, T', (hold b k2.1).trans e'⟩) (fun b hb => by
    rcases hb with hb | hb
    · exact hpost.heap.lt b hb
    · exact Nat.lt_of_lt_of_le (hok.pk b hb).2.1.1 hpost.below.size) (Nat.le_trans hok.base hpost.heap.base)
  have hst : ∀ b, ¬ c.ow b → b < c.w.heap.size → ¬ c'.ow b := fun b hb hlt ho => by
    rcases ho with ho | ho
    · exact (hpost.le.stable b (fun h => hb h.1) hlt).1 ho
    · exact hb (hok.pk b ho).1
  refine ⟨v', c', rfl, rfl, hd.ints fun b hb => ⟨.inl hb, rfl⟩, ⟨⟨fun b hb hlt => ⟨hst b hb hlt, Nat.lt_of_lt_of_le hlt hpost.below.size, fun o => World.cell?_of_block (a := ⟨b, o, none⟩) (hold b hlt)⟩, hpost.le.all, hpost.le.ids, fun b hb => ⟨.inr hb, hold b (hok.pk b hb).2.1.1⟩⟩, hok', hpost.H, hpost.A, ⟨hpost.below.os, hpost.below.tape, hpost.below.output, hpost.below.size, fun k hk => hpost.below.block k (Nat.lt_of_lt_of_le hk hok.base)⟩, fun b hb ho => how b (Nat.lt_of_lt_of_le hb hok.base) ho, fun b hb => ⟨⟨Nat.lt_of_lt_of_le hb.1 hpost.below.size, fun id blk h => by rw [show c'.H id = none from hH1 id] at h; cases h⟩, hold b hb.1, how b hb.1⟩, fun b hb => ?_⟩, fun b hb => hb.elim (fun h => .inr (hpk1 b h)) .inl⟩
  rcases hb with hb | hb
  · exact .inr fun h => by have := hpk1 b hb; have := h.1; omega
  · exact .inl hb

/-! ### A slice of numbers, in either zone -/
theorem mix_cells {O Z : Nat → Prop} {w : World} {d : Bool} {Tc : TypeId} {k : IntKind} {xs : List Int} {v : Value} (r : Dm O Z w (.opt d (.old Tc (.ints k xs))) v) :
    (xs = [] ∧ ∃ a cp, v = .slice a 0 cp) ∨ ∃ b off cp, v = .slice (some ⟨b, off, none⟩) xs.length cp ∧ xs.length ≤ cp ∧ 0 < xs.length ∧ (O b ∨ Z b) ∧ ∀ i, i < xs.length → w.cell? ⟨b, off + i, none⟩ = some (.int k (xs.getD i 0)) := by
  have go : ∀ {b off : Nat} {f : Nat → Nat → Value}, (∀ i j, i < (Cells.ints k xs).len → j < (Cells.ints k xs).w → w.cell? ⟨b, off + (i * (Cells.ints k xs).w + j), none⟩ = some (f i j)) → (∀ i j, i < (Cells.ints k xs).len → j < (Cells.ints k xs).w → Dm O Z w ((Cells.ints k xs).get i j) (f i j)) → ∀ i, i < xs.length → w.cell? ⟨b, off + i, none⟩ = some (.int k (xs.getD i 0)) := fun h1 h2 i hi => by
    have e1 := h1 i 0 hi Nat.one_pos
    have e2 := h2 i 0 hi Nat.one_pos
    simp only [Cells.get, Cells.w, Nat.mul_one, Nat.add_zero] at e1 e2
    rw [e1, e2.int_eq]
  cases r with
  | optO _ _ _ _ r =>
    cases r with
    | old0 _ _ a cp e => exact .inl ⟨List.eq_nil_of_length_eq_zero e, a, cp, rfl⟩
    | old _ _ b off cp arr f h0 hc hb hh hcell hr =>
      refine .inr ⟨b, off, cp, rfl, hc, h0, .inr hb, go (f := f) (fun i j hi hj => ?_) hr⟩
      have := (hcell i j hi hj).1
      simp [World.cell?, hh, this]
  | optR _ _ _ r =>
    cases r with
    | ro0 _ a cp e => exact .inl ⟨List.eq_nil_of_length_eq_zero e, a, cp, rfl⟩
    | ro _ b off cp f h0 hc hb hcell hr => exact .inr ⟨b, off, cp, rfl, hc, h0, .inl hb, go (f := f) (fun i j hi hj => (hcell i j hi hj).1) hr⟩

theorem mix_ro {c : Cx} {B : Nat} (hok : HeapOk c B) {d : Bool} {Tc : TypeId} {k : IntKind} {xs : List Int} {v : Value} (r : Dm c.fz c.pk c.w (.opt d (.old Tc (.ints k xs))) v) : Rep c.thaw true (.ro (.ints k xs)) v := by
  rcases mix_cells r with ⟨rfl, a, cp, rfl⟩ | ⟨b, off, cp, rfl, hc, h0, hz, hcell⟩
  · exact .ro0 _ _ _ _ rfl
  · have hlt : b < c.w.heap.size := hz.elim (fun h => h.2) fun h => (hok.pk b h).2.1.1
    have key := Rep.ro (c := c.thaw) true (.ints k xs) b off cp (fun i _ => .int k (xs.getD i 0)) h0 hc (fun h => hz.elim (fun h' => h'.1 h.1) fun h' => h.2 h') hlt (fun i j hi hj => ?_) (fun i j hi hj => ?_)
    · exact key
    · have : j = 0 := by have : j < 1 := hj; omega
      subst this
      simp only [Cells.w, Nat.mul_one, Nat.add_zero]
      exact ⟨hcell i hi, rfl⟩
    · exact .int ..

/-- What else is told of a slice of numbers whose copy stands in new memory, holds of the copy. -/
theorem mix_copy {O Z : Nat → Prop} {w w2 : World} {O2 Z2 : Nat → Prop} {d d' : Bool} {Tc : TypeId} {k k' : IntKind} {xs ys : List Int} {v u : Value} (r : Dm O Z w (.opt d (.old Tc (.ints k xs))) v) (r' : Dm O Z w (.opt d' (.old Tc (.ints k' ys))) v) (hu : Dm O2 Z2 w2 (.old Tc (.ints k xs)) u) : Dm O2 Z2 w2 (.old Tc (.ints k' ys)) u := by
  rcases mix_cells r with ⟨rfl, a, cp, rfl⟩ | ⟨b, off, cp, rfl, hc, h0, hz, hcell⟩
  · rcases mix_cells r' with ⟨rfl, _⟩ | ⟨b', off', cp', e, hc', h0', _⟩
    · cases hu with
      | old0 _ _ a cp e => exact .old0 _ _ _ _ rfl
      | old _ _ b off cp arr f h0 => exact absurd h0 (by simp [Cells.len])
    · injection e with _ e2
      omega
  · rcases mix_cells r' with ⟨rfl, _, _, e⟩ | ⟨b', off', cp', e, hc', h0', _, hcell'⟩
    · injection e with _ e2
      omega
    · injection e with e1 e2 e3
      injection e1 with e1
      injection e1 with e4 e5
      subst e4
      subst e5
      have e0 := (hcell 0 h0).symm.trans (hcell' 0 h0')
      simp only [Option.some.injEq, Value.int.injEq] at e0
      obtain ⟨rfl, _⟩ := e0
      have : xs = ys := by
        refine List.ext_getElem e2 fun i h1 h2 => ?_
        have := (hcell i h1).symm.trans (hcell' i h2)
        simp only [Option.some.injEq, Value.int.injEq, true_and, List.getD_eq_getElem?_getD] at this
        rw [List.getElem?_eq_getElem h1, List.getElem?_eq_getElem h2] at this
        exact this
      subst this
      exact hu
theorem mix_slice {O Z : Nat → Prop} {w : World} {d : Bool} {Tc : TypeId} {k : IntKind} {xs : List Int} {v : Value} (r : Dm O Z w (.opt d (.old Tc (.ints k xs))) v) : ∃ A n cp, v = .slice A n cp := by
  rcases mix_cells r with ⟨rfl, a, cp, rfl⟩ | ⟨b, off, cp, rfl, _⟩ <;> exact ⟨_, _, _, rfl⟩

/-! ### A slice of numbers in a parked row is changed for its copy -/
inductive Sh (Te Tc : TypeId) : PV → Prop where
  | int (k n) : Sh Te Tc (.int k n)
  | uint (k) : Sh Te Tc (.uint k)
  | bool (b) : Sh Te Tc (.bool b)
  | str (s) : Sh Te Tc (.str s)
  | ro (cs : Cells) (h : ∀ i j, i < cs.len → j < cs.w → Sh Te Tc (cs.get i j)) : Sh Te Tc (.ro cs)
  | opt (d : Bool) (k xs) : Sh Te Tc (.opt d (.old Tc (.ints k xs)))
  | flat (k xs) : Sh Te Tc (.old Tc (.ints k xs))
  | old (T : TypeId) (cs : Cells) (h0 : T ≠ Te) (h : ∀ i j, i < cs.len → j < cs.w → Sh Te Tc (cs.get i j)) : Sh Te Tc (.old T cs)
  | te (cs : Cells) (h : ∀ i j, i < cs.len → j < cs.w → (∃ k n, cs.get i j = .int k n) ∨ (∃ b, cs.get i j = .bool b) ∨ ∃ d k xs, cs.get i j = .opt d (.old Tc (.ints k xs))) : Sh Te Tc (.old Te cs)

theorem Dm.up {Te Tc : TypeId} (hTc : Tc ≠ Te) {O Z : Nat → Prop} {w : World} {b0 q : Nat} {arr0 : Array Value} {vo vn : Value} (hg : w.heap[b0]? = some (.cells arr0 Te (0, 0))) (hO : ¬ O b0) (hq : arr0[q]? = some vo) (hvs : ∃ A n cp, vo = .slice A n cp)
    (hvn : ∀ d k xs, Dm O Z w (.opt d (.old Tc (.ints k xs))) vo → Dm O Z w (.old Tc (.ints k xs)) vn) (h1 : vn.oneCell' = true) {p : PV} {v : Value} (r : Dm O Z w p v) : Sh Te Tc p → Dm O Z (w.setRow b0 (arr0.toList.take q ++ [vn] ++ arr0.toList.drop (q + 1)).toArray) p v := by
  have hflat : ∀ {k xs u}, Dm O Z w (.old Tc (.ints k xs)) u → Dm O Z (w.setRow b0 (arr0.toList.take q ++ [vn] ++ arr0.toList.drop (q + 1)).toArray) (.old Tc (.ints k xs)) u := fun h => h.kept hg hO (.old _ _ hTc fun i j _ _ => .int ..)
  have hro : ∀ {k xs u}, Dm O Z w (.ro (.ints k xs)) u → Dm O Z (w.setRow b0 (arr0.toList.take q ++ [vn] ++ arr0.toList.drop (q + 1)).toArray) (.ro (.ints k xs)) u := fun h => h.kept hg hO (.ro _ fun i j _ _ => .int ..)
  have hopt : ∀ {d k xs u}, Dm O Z w (.opt d (.old Tc (.ints k xs))) u → Dm O Z (w.setRow b0 (arr0.toList.take q ++ [vn] ++ arr0.toList.drop (q + 1)).toArray) (.opt d (.old Tc (.ints k xs))) u := fun h => by
    cases h with
    | optO _ _ _ _ h => exact .optO _ _ _ _ (hflat h)
    | optR _ _ _ h => exact .optR _ _ _ (hro h)
  have hlt : q < arr0.size := (Array.getElem?_eq_some_iff.1 hq).1
  induction r with
  | int k n => intro _; exact .int k n
  | uint k n => intro _; exact .uint k n
  | bool t => intro _; exact .bool t
  | str s => intro _; exact .str s
  | ro0 cs a cp h => intro _; exact .ro0 cs a cp h
  | ro cs b off cp f h0 hc hb hcell _ ih =>
    intro hn
    cases hn with
    | ro _ h => exact .ro cs b off cp f h0 hc hb (fun i j hi hj => ⟨(setRow_cell w b0 b _ (fun e => hO (e ▸ hb)) _).trans (hcell i j hi hj).1, (hcell i j hi hj).2⟩) fun i j hi hj => ih i j hi hj (h i j hi hj)
  | old0 T cs a cp h => intro _; exact .old0 T cs a cp h
  | optO d T cs v h _ =>
    intro hn
    cases hn
    exact hopt (.optO _ _ _ _ h)
  | optR T cs v h _ =>
    intro hn
    cases hn
    exact hopt (.optR _ _ _ h)
  | old T cs b off cp ar f h0 hc hb hh hcell hr ih =>
    intro hn
    cases hn with
    | flat k xs => exact hflat (.old _ _ b off cp ar f h0 hc hb hh hcell hr)
    | old _ _ hT h =>
      have hbg : b ≠ b0 := fun e => by
        subst e
        rw [hg] at hh
        cases hh
        exact hT rfl
      exact .old T cs b off cp ar f h0 hc hb ((setRow_other w b0 b _ hbg).trans hh) hcell fun i j hi hj => ih i j hi hj (h i j hi hj)
    | te _ h =>
      have hcl : ∀ i j, i < cs.len → j < cs.w → Dm O Z (w.setRow b0 (arr0.toList.take q ++ [vn] ++ arr0.toList.drop (q + 1)).toArray) (cs.get i j) (f i j) := fun i j hi hj => by
        have h2 := hr i j hi hj
        rcases h i j hi hj with ⟨k, n, e⟩ | ⟨t, e⟩ | ⟨d, k, xs, e⟩
        · rw [e] at h2 ⊢; rw [h2.int_eq]; exact .int ..
        · rw [e] at h2 ⊢; rw [h2.bool_eq]; exact .bool ..
        · rw [e] at h2 ⊢; exact hopt h2
      by_cases hbg : b = b0
      · subst hbg
        have e := hg.symm.trans hh
        simp only [Option.some.injEq, Obj.cells.injEq, true_and, and_true] at e
        subst e
        refine .old Te cs b off cp _ (fun i j => if off + (i * cs.w + j) = q then vn else f i j) h0 hc hb (setRow_heap w b arr0 _ Te (0, 0) hg) (fun i j hi hj => ?_) fun i j hi hj => ?_
        · rw [splice1 arr0 q vn hlt]
          by_cases hpq : off + (i * cs.w + j) = q
          · rw [if_pos hpq]; simp only [hpq, if_true]; exact ⟨trivial, h1⟩
          · rw [if_neg hpq]; simp only [hpq, if_false]; exact hcell i j hi hj
        · by_cases hpq : off + (i * cs.w + j) = q
          · simp only [hpq, if_true]
            have h3 := hr i j hi hj
            have h4 : f i j = vo := by
              have := (hcell i j hi hj).1
              rw [hpq, hq] at this
              cases this
              rfl
            obtain ⟨A, n, cp', hvs⟩ := hvs
            rcases h i j hi hj with ⟨k, n', e⟩ | ⟨t, e⟩ | ⟨d, k, xs, e⟩
            · rw [e, h4, hvs] at h3; exact absurd h3.int_eq (by simp)
            · rw [e, h4, hvs] at h3; exact absurd h3.bool_eq (by simp)
            · rw [e] at h3 ⊢
              rw [h4] at h3
              exact .optO _ _ _ _ (hflat (hvn d k xs h3))
          · simp only [hpq, if_false]; exact hcl i j hi hj
      · exact .old Te cs b off cp ar f h0 hc hb ((setRow_other w b0 b _ hbg).trans hh) hcell hcl

/-! ### Other words for the same cells -/
theorem Dm.old_conv {O Z : Nat → Prop} {w : World} {Te : TypeId} {cs cs' : Cells} {v : Value} (r : Dm O Z w (.old Te cs) v) (hl : cs'.len = cs.len) (hw : cs'.w = cs.w) (h : ∀ i j, i < cs.len → j < cs.w → ∀ u, Dm O Z w (cs.get i j) u → Dm O Z w (cs'.get i j) u) : Dm O Z w (.old Te cs') v := by
  cases r with
  | old0 _ _ a cp e => exact .old0 _ _ _ _ (by omega)
  | old _ _ b off cp arr f h0 hc hb hh hcell hr =>
    rw [← hl]
    exact .old Te cs' b off cp arr f (by omega) (by omega) hb hh (fun i j hi hj => by rw [hw] at hj ⊢; exact hcell i j (by omega) hj) fun i j hi hj => h i j (by omega) (by omega) _ (hr i j (by omega) (by omega))
end Go.Pv


namespace Go.Pv
set_option linter.unusedVariables false
set_option linter.unusedSimpArgs false
open Go Go.RowKit
variable {P : Program} {T : Ty} {nt n0 : Nat}

/-! ### Walks from a start where nothing is parked -/
def SWp0 (P : Program) (nt n0 : Nat) (c : Code) (Q : Exit → St → Prop) (st : St) : Prop := ∀ (S : Fr n0) (B : Nat) (W0 : World) (a : Act) (w : World), (∀ b, ¬ S.c0.pk b) → (∀ id, S.c0.H id = none) → B ≤ S.c0.w.heap.size → Sim S B nt W0 st a w → c.wp P (fun e a' w' => ∃ st', Q e st' ∧ Sim S B nt W0 st' a' w') a w
theorem SWp.to0 {c : Code} {Q : Exit → St → Prop} {st : St} (h : SWp P nt n0 c Q st) : SWp0 P nt n0 c Q st := fun S B W0 a w _ _ _ hs => h S B W0 a w hs
theorem swp0_seq {x y : Code} {Q : Exit → St → Prop} {st : St} (h : ∀ K : St → Prop, (∀ st, SWp0 P nt n0 y Q st → K st) → SWp P nt n0 x (thn K Q) st) : SWp0 P nt n0 (.seq x y) Q st := fun S B W0 a w h1 h2 h3 hs => by
  refine wp_seq (wp_mono (h (SWp0 P nt n0 y Q) (fun _ h => h) S B W0 a w hs) ?_)
  rintro e a' w' ⟨st', k1, k2⟩
  cases e with
  | normal => exact k1 S B W0 a' w' h1 h2 h3 k2
  | _ => exact ⟨st', k1, k2⟩
def HCall0 (P : Program) (f : FuncId) (ps : List PV) (n : Nat) (r : PV) (e : Eff) : Prop :=
  (∃ fn, P.funcs[f]? = some fn ∧ (fn.name == "runtime.NumGoroutine") = false ∧ fn.body.isNone = false) ∧
  ∀ (c : Cx) (B : Nat) (vs : Array Value), HeapOk c B → c.H = getH [] → (∀ id, n ≤ id → ¬ c.A id) → (∀ b, ¬ c.pk b) → ArgsOk c false ps vs → Calls P f vs c.w fun en w' => ∃ v c', en = .returned v ∧ c'.w = w' ∧ Rep c' false r v ∧ Post c c' B e
theorem hcall_body0 (hT : TyOk P T) {f : FuncId} {fn : Func} {code : Code} {ps : List PV} {n : Nat} {r : PV} {e : Eff} (hf : P.funcs[f]? = some fn) (hb : fn.body = some code) (hname : (fn.name == "runtime.NumGoroutine") = false) (hlen : ps.length ≤ fn.ntmps)
    (h : SWp0 P fn.ntmps n code (fnPostH T fn [] r e) ⟨argT 0 ps, [], n⟩) : HCall0 P f ps n r e := by
  refine ⟨⟨fn, hf, hname, by rw [hb]; rfl⟩, fun c B vs hok hH hfr hpk0 hargs => ?_⟩
  have hsz : vs.size ≤ fn.ntmps := by rw [← hargs.1]; exact hlen
  refine calls_of_marks hf hb (wp_mono (h ⟨fun _ => False, c⟩ B c.w _ c.w hpk0 (fun id => by rw [hH]; rfl) hok.base ⟨c, rfl, hH, hok, hfr, fun t => ?_, by simp; omega, trivial, Below.refl _ _, ⟨fun b h => h.elim, .refl _, fun b h => ⟨h, rfl, fun h => h⟩, fun id hA => Nat.lt_of_not_le fun hle => hfr id hle hA, Nat.le_refl _, fun b hb => .inl hb⟩⟩) ?_)
  · rw [argT_get, if_neg (by omega), Nat.sub_zero]
    cases hp : ps[t]? with
    | none => exact .any ..
    | some p =>
      have hlt : t < vs.size := by rw [← hargs.1]; exact (List.getElem?_eq_some_iff.1 hp).1
      have hv : vs[t]? = some vs[t] := Array.getElem?_eq_getElem hlt
      have hv' : (vs ++ Array.replicate (fn.ntmps - vs.size) undef)[t]? = some vs[t] := by rw [Array.getElem?_append_left hlt]; exact hv
      rw [Array.getD_eq_getD_getElem?, hv']
      exact hargs.2 t p _ hp hv
  · rintro x a' w' ⟨st, ⟨he, hr, hin, hkeep⟩, cf0, rfl, hHf0, hokf0, _, hrep0, _, hdef, hbel0, hK0⟩
    have key : ∀ cf, cf0.Le cf → cf.H = cf0.H → cf.A = cf0.A → cf.loc = cf0.loc → HeapOk cf B → Below B c.w cf.w → Keep (n0 := n) ⟨fun _ => False, c⟩ B c.w cf → ∃ v, (results fn a'.tmps).run P cf.w = .ok v cf.w ∧ ∃ v' c', Ending.returned v = .returned v' ∧ c'.w = cf.w ∧ Rep c' false r v' ∧ Post c c' B e := by
     intro cf hlef hHc hAc hlc hokf hbel hK
     have hHf : cf.H = getH st.H := hHc.trans hHf0
     have hrep : ∀ t, Rep cf false (getT st.tm t) (a'.tmps.getD t undef) := fun t => (hrep0 t).mono hlef
     rw [← hHf] at hr
     obtain ⟨us, qs, h1, h2, h3⟩ := res_ok hT hokf hrep _ _ hr
     have hres := results_run2 h1
     let L : Nat → Bool := fun id => (e.on (getH []) id).isSome
     let c' : Cx := { cf with H := e.on (getH []), A := fun id => c.A id ∨ id ∈ e.map (·.1) }
     have hk : ∀ id b, e.on (getH []) id = some b → cf.H id = some b ∧ b.inL L = true := fun id b hb => by
       have hm : id ∈ ([] : List (Nat × Option Blk)).map (·.1) ++ e.map (·.1) := by
         rcases eff_mem hb with h | h
         · exact List.mem_append_right _ h
         · exact List.mem_append_left _ (List.mem_map.2 ⟨_, getH_mem [] id b h, rfl⟩)
       have := hkeep id hm b hb
       rw [hHf]
       exact this
     have hA : ∀ id b, e.on (getH []) id = some b → c.A id ∨ id ∈ e.map (·.1) := fun id b hb => by
       rcases eff_mem hb with h | h
       · exact .inr h
       · rw [← hH] at h; exact .inl (hok.ok id b h).1
     have hcut : CutP L cf c' := ⟨rfl, rfl, rfl, rfl, fun id hL _ => by
       obtain ⟨b, hb⟩ := Option.isSome_iff_exists.1 hL
       exact hA id b hb, hk⟩
     have hle : c.Le c' := ⟨hK.le.stable, fun id h => .inl h, fun id b' h h' => hK.le.ids id b' h (hk id b' h').1, fun b hb => hK.le.park b hb⟩
     have hheap : HeapOk c' B := by
       refine ⟨fun id blk hb => ?_, fun id blk g hb hg => hokf.own id blk g (hk id blk hb).1 hg, fun i1 i2 b1 b2 g h1 h2 g1 g2 => hokf.inj i1 i2 b1 b2 g (hk i1 b1 h1).1 (hk i2 b2 h2).1 g1 g2, hokf.base, hokf.lt, fun b hb => let ⟨h1, h2, h3⟩ := hokf.pk b hb; ⟨h1, ⟨h2.1, fun id b' h' => h2.2 id b' (hk id b' h').1⟩, h3⟩⟩
       obtain ⟨h4, h5⟩ := hk id blk hb
       obtain ⟨h6, h7⟩ := hokf.ok id blk h4
       refine ⟨hA id blk hb, ?_⟩
       unfold BlkOk at h7 ⊢
       split
       · rename_i hbox
         rw [if_pos hbox] at h7
         obtain ⟨g, us, T', e1, e2, e3, e4⟩ := h7
         have hlo : blk.cs.inL L = true := by simpa [Blk.inL, hbox] using h5
         exact ⟨g, us, T', e1, e2, e3.to rfl (fun L' ps he t ht => ht.cutP hcut (lp_inL (by rw [he] at hlo; exact hlo) t)), e4.1, fun i j hi hj => by obtain ⟨v, h6, h7, h8⟩ := e4.2 i j hi hj; exact ⟨v, h6, h7.cutP1 hcut (inL_get hlo i j), h8⟩⟩
       · rename_i hbox
         rw [if_neg hbox] at h7
         obtain ⟨us, e1, e2⟩ := h7
         exact ⟨us, e1, e2.1, fun i j hi hj => by obtain ⟨v, h6, h7, h8⟩ := e2.2 i j hi hj; exact ⟨v, h6, @Rep.bare cf c' (fun b h1 h2 => ⟨h1, h2, fun _ => rfl⟩) true rfl _ _ h7, h8⟩⟩
     have hpost : Post c c' B e := by
       refine ⟨hle, hheap, by rw [hH], fun id => Iff.rfl, hbel, fun b hb ho => (hK.only b ⟨Nat.lt_of_lt_of_le hb hok.base, fun id blk h hg => ?_⟩).2.2 ho, fun b hb => ?_, fun b hb => hK.pkn b hb⟩
       · have := ((hok.ok id blk h).2.lt hg).1
         omega
       · obtain ⟨k1, k2, k3⟩ := hK.only b hb
         exact ⟨⟨k1.1, fun id blk h => k1.2 id blk (hk id blk h).1⟩, k2, k3⟩
     have hrr : Rep c' false r (tupV us) := by
       rw [h2] at hin ⊢
       exact (tup_rep h3).cutR hcut hin
     exact ⟨_, hres, _, c', rfl, rfl, hrr, hpost⟩
    have hlv := leave_marks (P := P) (fn := fn) (tmps := a'.tmps) (R := fun en w' => ∃ v c', en = .returned v ∧ c'.w = w' ∧ Rep c' false r v ∧ Post c c' B e) (n0 := n) (S := ⟨fun _ => False, c⟩) hok.base a'.defers cf0 hdef hokf0 hbel0 hK0 key
    rcases he with rfl | rfl
    · exact hlv
    · exact hlv

def pur2 : PV → Bool
  | .agg cs => cs.all pur1
  | p => pur1 p
theorem Rep.pure2 {c c' : Cx} (hw : c'.w = c.w) (how : c'.ow = c.ow) {p : PV} {v : Value} (hp : pur2 p = true) (r : Rep c false p v) : Rep c' false p v := by
  have hb : ∀ b, ¬ c.ow b → b < c.w.heap.size → ¬ c'.ow b ∧ b < c'.w.heap.size ∧ ∀ o, c'.w.cell? ⟨b, o, none⟩ = c.w.cell? ⟨b, o, none⟩ := fun b h1 h2 => by rw [hw, how]; exact ⟨h1, h2, fun _ => rfl⟩
  cases p with
  | agg cs =>
    cases r with
    | agg _ _ vs h1 h2 => exact .agg _ cs vs h1 fun i p v h3 h4 => (@Rep.bare c c' hb true rfl _ _ ((h2 i p v h3 h4).pur (List.all_eq_true.1 hp p (List.mem_of_getElem? h3)))).loose
  | _ => exact (@Rep.bare c c' hb true rfl _ _ (r.pur hp)).loose
theorem HCall0.hcall {f : FuncId} {ps : List PV} {r : PV} (h : HCall0 P f ps 0 r []) (hp : ps.all pur2 = true) (n : Nat) : HCall P f ps [] n r [] := by
  refine ⟨h.1, fun c B vs hok hH hfr hargs => ?_⟩
  have hH0 : ∀ id, c.H id = none := fun id => by rw [hH]; rfl
  let c0 : Cx := { c with pk := fun _ => False, A := fun _ => False }
  have hok0 : HeapOk c0 B := .bare hH0 (fun b hb => hb.elim) hok.lt hok.base
  refine (h.2 c0 B vs hok0 hH (fun id _ h => h) (fun b h => h) ⟨hargs.1, fun i p v h1 h2 => (hargs.2 i p v h1 h2).pure2 (c := c) (c' := c0) rfl rfl (List.all_eq_true.1 hp p (List.mem_of_getElem? h1))⟩).mono ?_
  rintro en w' ⟨v', c1, rfl, rfl, hd, hpost⟩
  have hidle : ∀ b, b < c.w.heap.size → c0.idle b := fun b hb => ⟨hb, fun id blk h => by rw [show c0.H id = none from hH0 id] at h; cases h⟩
  have hH1 : ∀ id, c1.H id = none := fun id => by rw [hpost.H]; exact hH0 id
  have hA1 : ∀ id, ¬ c1.A id := fun id h => by
    rcases (hpost.A id).1 h with h | h
    · exact h
    · simp at h
  let c' : Cx := { c1 with pk := fun b => c1.pk b ∨ c.pk b, A := c.A }
  have hpk1 : ∀ b, c1.pk b → c.w.heap.size ≤ b := fun b hb => (hpost.pkn b hb).elim (fun h => h.elim) fun h => Nat.le_of_not_lt fun hlt => h (hidle b hlt)
  have hold : ∀ b, c.pk b → c1.ow b ∧ c1.w.heap[b]? = c.w.heap[b]? := fun b hb => by
    obtain ⟨k1, k2, k3⟩ := hok.pk b hb
    obtain ⟨k4, k5, k6⟩ := hpost.only b (hidle b k2.1)
    exact ⟨k6 k1, k5⟩
  have hok' : HeapOk c' B := .bare hH1 (fun b hb => by
    rcases hb with hb | hb
    · exact ⟨(hpost.heap.pk b hb).1, (hpost.heap.pk b hb).2.2⟩
    · obtain ⟨vs, T', e'⟩ := (hok.pk b hb).2.2
      exact ⟨(hold b hb).1, vs, T', (hold b hb).2.trans e'⟩) hpost.heap.lt hpost.heap.base
  refine ⟨v', c', rfl, rfl, hd.mono (show Cx.Le c1 c' from ⟨fun b h1 h2 => ⟨h1, h2, fun _ => rfl⟩, fun id h => (hA1 id h).elim, fun id blk _ h => ⟨blk, h, Nat.le_refl _, rfl, rfl, fun _ => rfl⟩, fun b hb => ⟨.inl hb, rfl⟩⟩), ⟨⟨hpost.le.stable, fun _ h => h, (fun id blk _ h => by rw [show c'.H id = none from hH1 id] at h; cases h), fun b hb => ⟨.inr hb, (hold b hb).2⟩⟩, hok', hpost.H, (fun id => by show c.A id ↔ c.A id ∨ id ∈ []; simp), hpost.below, hpost.ow, fun b hb => hpost.only b hb, fun b hb => ?_⟩⟩
  rcases hb with hb | hb
  · exact .inr fun h => by have := hpk1 b hb; have := h.1; omega
  · exact .inl hb

/-! ### A call on parked data that gives a number -/
/-- A frozen datum that is parked now. -/
inductive Olds : PV → PV → Prop where
  | int (k n) : Olds (.int k n) (.int k n)
  | bool (b) : Olds (.bool b) (.bool b)
  | ints (T k xs) : Olds (.ro (.ints k xs)) (.old T (.ints k xs))
  | rows (T w) (rs rs' : List (List PV)) : rs'.length = rs.length → (∀ i j, i < rs.length → j < w → Olds ((Cells.rows w rs).get i j) ((Cells.rows w rs').get i j)) → Olds (.ro (.rows w rs)) (.old T (.rows w rs'))
theorem Olds.dm {p p' : PV} (h : Olds p p') : ∀ {c : Cx} {B : Nat} {v : Value}, HeapOk c B → Dm c.fz c.pk c.w p' v → Rep c.thaw true p v := by
  induction h with
  | int k n => intro c B v hok r; rw [r.int_eq]; exact .int ..
  | bool b => intro c B v hok r; rw [r.bool_eq]; exact .bool ..
  | ints T k xs => intro c B v hok r; exact mix_ro hok (d := true) (.optO _ _ _ _ r)
  | rows T w rs rs' hl _ ih =>
    intro c B v hok r
    cases r with
    | old0 _ _ a cp e => exact .ro0 _ _ _ _ (show rs.length = 0 by have : rs'.length = 0 := e; omega)
    | old _ _ b off cp arr f h0 hc hb hh hcell hr =>
      have h0 : 0 < rs'.length := h0
      have hc : rs'.length ≤ cp := hc
      have key := Rep.ro (c := c.thaw) true (.rows w rs) b off cp f (show 0 < rs.length by omega) (show rs.length ≤ cp by omega) (fun h => h.2 hb) (hok.pk b hb).2.1.1 (fun i j hi hj => ?_) (fun i j hi hj => ?_)
      · have e : (Cells.rows w rs').len = (Cells.rows w rs).len := hl
        rw [e]
        exact key
      · have hi : i < rs.length := hi
        obtain ⟨k1, k2⟩ := hcell i j (show i < rs'.length by omega) hj
        refine ⟨?_, k2⟩
        show c.w.cell? _ = _
        simp [World.cell?, hh]
        exact k1
      · have hi : i < rs.length := hi
        exact ih i j hi hj hok (hr i j (show i < rs'.length by omega) hj)
inductive Old1 : PV → PV → Prop where
  | pur (p) : pur1 p = true → Old1 p p
  | old {p p' : PV} (T cs) : p' = .old T cs → Olds p p' → Old1 p p'
theorem Old1.rep {p p' : PV} (h : Old1 p p') {c : Cx} {B : Nat} (hok : HeapOk c B) {v : Value} (r : Rep c false p' v) : Rep c.thaw true p v := by
  cases h with
  | pur hp => exact @Rep.bare c c.thaw (fun b h1 h2 => ⟨fun h => h1 h.1, h2, fun _ => rfl⟩) true rfl _ _ (r.pur hp)
  | old T cs e h =>
    subst e
    cases r with
    | old _ _ _ hd => exact h.dm hok hd
inductive Old2 : PV → PV → Prop where
  | one {p p' : PV} : Old1 p p' → Old2 p p'
  | agg (l l' : List PV) : l'.length = l.length → (∀ (i : Nat) p p', l[i]? = some p → l'[i]? = some p' → Old1 p p') → Old2 (.agg l) (.agg l')
theorem Old2.rep {p p' : PV} (h : Old2 p p') {c : Cx} {B : Nat} (hok : HeapOk c B) {v : Value} (r : Rep c false p' v) : Rep c.thaw true p v := by
  cases h with
  | one h => exact h.rep hok r
  | agg l l' hl h =>
    cases r with
    | agg _ _ vs h1 h2 =>
      refine .agg _ l vs (by omega) fun i q u h3 h4 => ?_
      have hi : i < l'.length := by have := (List.getElem?_eq_some_iff.1 h3).1; omega
      exact (h i q _ h3 (List.getElem?_eq_getElem hi)).rep hok (h2 i _ u (List.getElem?_eq_getElem hi) h4)
/-- Of a contract on frozen data with a number for its answer: the same on parked data. -/
theorem hcall_olds {f : FuncId} {ps ps' : List PV} {r : PV} (h : PCall P f ps r) (hr : r.scal = true) (hl : ps'.length = ps.length) (ho : ∀ (i : Nat) p p', ps[i]? = some p → ps'[i]? = some p' → Old2 p p') (n : Nat) : HCall P f ps' [] n r [] := by
  refine ⟨h.1, fun c B vs hok hH hfr hargs => ?_⟩
  have hH0 : ∀ id, c.H id = none := fun id => by rw [hH]; rfl
  have hargs' : ArgsOk (see c.thaw.ow c.w) true ps vs := ⟨by rw [← hargs.1]; exact hl.symm, fun i p v h1 h2 => by
    have hi : i < ps'.length := by have := (List.getElem?_eq_some_iff.1 h1).1; omega
    have := (ho i p _ h1 (List.getElem?_eq_getElem hi)).rep hok (hargs.2 i _ v (List.getElem?_eq_getElem hi) h2)
    exact @Rep.bare c.thaw (see c.thaw.ow c.w) (fun b h1 h2 => ⟨h1, h2, fun _ => rfl⟩) true rfl _ _ this⟩
  refine (h.2 c.w vs c.thaw.ow (fun b hb => hok.lt b hb.1) hargs').mono ?_
  rintro en w' ⟨v, rfl, hrep, hb⟩
  obtain ⟨c', hcw, hloc, how, hpost⟩ := post_world (w' := w') hok (grown_below hb)
  exact ⟨v, c', rfl, hcw, scal_rep hr hrep, hpost⟩
end Go.Pv


namespace Go.Pv
set_option linter.unusedVariables false
set_option linter.unusedSimpArgs false
open Go Go.RowKit
variable {P : Program} {T : Ty} {nt n0 : Nat}

/-! ### Parked rows are written, new memory is taken: what stays -/
structure Lt (Te Tc : TypeId) (c1 : Cx) (B : Nat) (c : Cx) : Prop where
  H : ∀ id, c.H id = none
  ok : HeapOk c B
  stable : ∀ b, ¬ c1.ow b → b < c1.w.heap.size → ¬ c.ow b ∧ b < c.w.heap.size ∧ ∀ o, c.w.cell? ⟨b, o, none⟩ = c1.w.cell? ⟨b, o, none⟩
  size : c1.w.heap.size ≤ c.w.heap.size
  own : ∀ b, c1.ow b → c.ow b
  pk : ∀ b, c1.pk b → c.pk b
  pkn : ∀ b, c.pk b → c1.pk b ∨ c1.w.heap.size ≤ b
  blk : ∀ b, b < c1.w.heap.size → c.w.heap[b]? = c1.w.heap[b]? ∨ (c1.pk b ∧ ∃ arr arr', c1.w.heap[b]? = some (.cells arr Te (0, 0)) ∧ c.w.heap[b]? = some (.cells arr' Te (0, 0)))
  os : c.w.os = c1.w.os ∧ c.w.tape = c1.w.tape ∧ c.w.output = c1.w.output
  sh : ∀ p v, Sh Te Tc p → Dm c1.fz c1.pk c1.w p v → Dm c.fz c.pk c.w p v

theorem Lt.start (Te Tc : TypeId) {c1 : Cx} {B : Nat} (hok : HeapOk c1 B) : Lt Te Tc c1 B { c1 with H := fun _ => none } :=
  ⟨fun _ => rfl, .bare (fun _ => rfl) (fun b hb => ⟨(hok.pk b hb).1, (hok.pk b hb).2.2⟩) hok.lt hok.base, fun b h1 h2 => ⟨h1, h2, fun _ => rfl⟩, Nat.le_refl _, fun _ h => h, fun _ h => h, fun _ h => .inl h, fun _ _ => .inl rfl, ⟨rfl, rfl, rfl⟩, fun _ _ _ h => h⟩

theorem Lt.step {Te Tc : TypeId} (hTc : Tc ≠ Te) {c1 c c' : Cx} {B : Nat} (h : Lt Te Tc c1 B c) (hp : Post c c' B []) (hnew : ∀ b, c'.pk b → c.pk b ∨ c.w.heap.size ≤ b) {b0 q : Nat} {arr0 : Array Value} {vo vn : Value} (hb0 : c'.pk b0) (hg : c'.w.heap[b0]? = some (.cells arr0 Te (0, 0))) (hq : arr0[q]? = some vo)
    {d : Bool} {k : IntKind} {xs : List Int} (hvo : Dm c'.fz c'.pk c'.w (.opt d (.old Tc (.ints k xs))) vo) (hvn : Dm c'.fz c'.pk c'.w (.old Tc (.ints k xs)) vn) :
    ∃ c2 : Cx, c2.w = c'.w.setRow b0 (arr0.toList.take q ++ [vn] ++ arr0.toList.drop (q + 1)).toArray ∧ Lt Te Tc c1 B c2 ∧ (∀ p v, Sh Te Tc p → Dm c'.fz c'.pk c'.w p v → Dm c2.fz c2.pk c2.w p v) ∧ c2.w.cell? ⟨b0, q, none⟩ = some vn ∧ (∀ b o : Nat, (∀ arr, c'.w.heap[b]? ≠ some (Obj.cells arr Te (0, 0))) → c2.w.cell? ⟨b, o, none⟩ = c'.w.cell? ⟨b, o, none⟩) ∧ ∀ b : Nat, ∀ T' arr, c'.w.heap[b]? = some (Obj.cells arr T' (0, 0)) → ∃ arr', c2.w.heap[b]? = some (Obj.cells arr' T' (0, 0)) := by
  let c2 : Cx := { c' with w := c'.w.setRow b0 (arr0.toList.take q ++ [vn] ++ arr0.toList.drop (q + 1)).toArray }
  have hlt : q < arr0.size := (Array.getElem?_eq_some_iff.1 hq).1
  have hO : ¬ c'.fz b0 := fun hf => hf.1 (hp.heap.pk b0 hb0).1
  have h1 : vn.oneCell' = true := by cases hvn <;> rfl
  have hup : ∀ p v, Sh Te Tc p → Dm c'.fz c'.pk c'.w p v → Dm c2.fz c2.pk c2.w p v := fun p v hs hd => (hd.up hTc hg hO hq (mix_slice hvo) (fun d' k' ys hy => mix_copy hvo hy hvn) h1 hs).fz_set
  have hsz : c2.w.heap.size = c'.w.heap.size := setRow_size ..
  have hidle : ∀ b, b < c.w.heap.size → c.idle b := fun b hb => ⟨hb, fun id blk e => by rw [h.H] at e; cases e⟩
  have hsame : ∀ b, b < c.w.heap.size → c'.w.heap[b]? = c.w.heap[b]? := fun b hb => (hp.only b (hidle b hb)).2.1
  have hH' : ∀ id, c'.H id = none := fun id => by rw [hp.H]; exact h.H id
  have hpkb : ∀ b, b < c1.w.heap.size → c'.pk b → c1.pk b := fun b hb hpk => by
    rcases hnew b hpk with h1 | h1
    · rcases h.pkn b h1 with h2 | h2
      · exact h2
      · omega
    · have := h.size; omega
  refine ⟨c2, rfl, ⟨hH', .bare hH' (fun b hb => ?_) (fun b hb => by rw [hsz]; exact hp.heap.lt b hb) (by rw [hsz]; exact hp.heap.base), fun b hb hlt' => ?_, by rw [hsz]; exact Nat.le_trans h.size hp.below.size, fun b hb => (hp.only b (hidle b (h.ok.lt b (h.own b hb)))).2.2 (h.own b hb), fun b hb => (hp.le.park b (h.pk b hb)).1, fun b hb => ?_, fun b hb => ?_, ?_, fun p v hs hd => hup p v hs (hp.le.dm (h.sh p v hs hd))⟩, hup, ?_, fun b o hb => ?_, fun b T' arr hb => ?_⟩
  · obtain ⟨k1, _, vs, T', k3⟩ := hp.heap.pk b hb
    refine ⟨k1, ?_⟩
    by_cases hbb : b = b0
    · subst hbb
      exact ⟨_, _, setRow_heap c'.w b arr0 _ Te (0, 0) hg⟩
    · exact ⟨vs, T', (setRow_other c'.w b0 b _ hbb).trans k3⟩
  · obtain ⟨k1, k2, k3⟩ := h.stable b hb hlt'
    obtain ⟨k4, k5, k6⟩ := hp.le.stable b k1 k2
    exact ⟨k4, by rw [hsz]; exact k5, fun o => (setRow_cell c'.w b0 b _ (fun e => k4 (e ▸ (hp.heap.pk b0 hb0).1)) o).trans ((k6 o).trans (k3 o))⟩
  · rcases hnew b hb with h1 | h1
    · exact h.pkn b h1
    · exact .inr (Nat.le_trans h.size h1)
  · have hbc : b < c.w.heap.size := Nat.lt_of_lt_of_le hb h.size
    by_cases hbb : b = b0
    · subst hbb
      refine .inr ⟨hpkb b hb hb0, ?_⟩
      have e := (hsame b hbc).symm.trans hg
      rcases h.blk b hb with e2 | ⟨_, arr, arr', e2, e3⟩
      · exact ⟨arr0, _, e2.symm.trans e, setRow_heap c'.w b arr0 _ Te (0, 0) hg⟩
      · exact ⟨arr, _, e2, setRow_heap c'.w b arr0 _ Te (0, 0) hg⟩
    · have e : c2.w.heap[b]? = c.w.heap[b]? := (setRow_other c'.w b0 b _ hbb).trans (hsame b hbc)
      rw [e]
      exact h.blk b hb
  · exact ⟨hp.below.os.trans h.os.1, hp.below.tape.trans h.os.2.1, hp.below.output.trans h.os.2.2⟩
  · have e := setRow_heap c'.w b0 arr0 (arr0.toList.take q ++ [vn] ++ arr0.toList.drop (q + 1)).toArray Te (0, 0) hg
    have e2 := splice1 arr0 q vn hlt q
    rw [if_pos rfl] at e2
    show (c'.w.setRow b0 _).cell? _ = _
    simp only [World.cell?, e]
    simpa using e2
  · exact setRow_cell c'.w b0 b _ (fun e => hb arr0 (e ▸ hg)) o
  · by_cases hbb : b = b0
    · subst hbb
      rw [hg] at hb
      cases hb
      exact ⟨_, setRow_heap c'.w b arr0 _ Te (0, 0) hg⟩
    · exact ⟨arr, (setRow_other c'.w b0 b _ hbb).trans hb⟩

theorem Dfs.to2 {N : Nat} {c c' : Cx} (h : ∀ b l, c.idle b → c.ow b → c.w.heap[b]? = some (.deferred l) → c'.idle b ∧ c'.w.heap[b]? = c.w.heap[b]? ∧ c'.ow b) : ∀ {l : List Deferred}, Dfs N c l → Dfs N c' l
  | [], _ => trivial
  | d :: ds, hd => by
    obtain ⟨⟨D, e, h1, h2, h3, h4, h5⟩, h6⟩ := hd
    obtain ⟨k1, k2, k3⟩ := h D _ h2 h3 h4
    exact ⟨⟨D, e, h1, k1, k3, k2.trans h4, h5⟩, Dfs.to2 h h6⟩

def Cx.back (c1 c : Cx) (H : Nat → Option Blk) : Cx := { c with H := H, loc := c1.loc, A := c1.A }
theorem Lt.sim {Te Tc : TypeId} {S : Fr n0} {B : Nat} {W0 : World} {c1 c : Cx} {st' : St} {a' : Act} (h : Lt Te Tc c1 B c) (hpk0 : ∀ b, ¬ S.c0.pk b) (hH0 : ∀ id, S.c0.H id = none) (hBN : B ≤ S.c0.w.heap.size) (hok : HeapOk c1 B) (hfr : ∀ id, st'.n ≤ id → ¬ c1.A id) (hdef : Dfs S.c0.w.heap.size c1 a'.defers) (hbel : Below B W0 c1.w) (hK : Keep S B W0 c1) (hsz : a'.tmps.size = nt)
    (hH : ∀ id blk, getH st'.H id = some blk → (∃ b, c1.H id = some b) ∧ BlkOk (c1.back c (getH st'.H)) B (c1.loc id) blk) (htm : ∀ t, Rep (c1.back c (getH st'.H)) false (getT st'.tm t) (a'.tmps.getD t undef)) : Sim S B nt W0 st' a' c.w := by
  have hpb : ∀ b, c1.pk b → S.c0.w.heap.size ≤ b := fun b hb => (hK.pkn b hb).elim (fun h => (hpk0 b h).elim) fun h => Nat.le_of_not_lt fun hlt => h ⟨hlt, fun id blk e => by rw [hH0] at e; cases e⟩
  have hsame : ∀ b, b < c1.w.heap.size → ¬ c1.pk b → c.w.heap[b]? = c1.w.heap[b]? := fun b hb hn => (h.blk b hb).resolve_right fun h => hn h.1
  have hidle : ∀ b, c1.idle b → (c1.back c (getH st'.H)).idle b := fun b hb => ⟨Nat.lt_of_lt_of_le hb.1 h.size, fun id blk e => let ⟨⟨b', e'⟩, _⟩ := hH id blk e; hb.2 id b' e'⟩
  have hok' : HeapOk (c1.back c (getH st'.H)) B := by
    refine ⟨fun id blk e => ?_, fun id blk g e hg => ?_, fun i1 i2 b1 b2 g e1 e2 g1 g2 => ?_, h.ok.base, h.ok.lt, fun b hb => ?_⟩
    · obtain ⟨⟨b', e'⟩, h2⟩ := hH id blk e
      exact ⟨(hok.ok id b' e').1, h2⟩
    · obtain ⟨⟨b', e'⟩, _⟩ := hH id blk e
      exact h.own g (hok.own id b' g e' hg)
    · obtain ⟨⟨b1', e1'⟩, _⟩ := hH i1 b1 e1
      obtain ⟨⟨b2', e2'⟩, _⟩ := hH i2 b2 e2
      exact hok.inj i1 i2 b1' b2' g e1' e2' g1 g2
    · obtain ⟨k1, k2, k3⟩ := h.ok.pk b hb
      refine ⟨k1, ⟨k2.1, fun id blk e hg => ?_⟩, k3⟩
      obtain ⟨⟨b', e'⟩, _⟩ := hH id blk e
      rcases h.pkn b hb with h1 | h1
      · exact (hok.pk b h1).2.1.2 id b' e' hg
      · have := ((hok.ok id b' e').2.lt hg).2
        omega
  refine ⟨c1.back c (getH st'.H), rfl, rfl, hok', hfr, htm, hsz, hdef.to2 (fun b l h1 h2 h3 => ?_), ⟨h.os.1.trans hbel.os, h.os.2.1.trans hbel.tape, h.os.2.2.trans hbel.output, Nat.le_trans hbel.size h.size, fun k hk => ?_⟩, ⟨fun b hb => ⟨(hK.s b hb).1, h.own b (hK.s b hb).2⟩, ⟨fun b hb hlt => ?_, fun id h => hK.le.all id h, fun id blk hA e => ?_, fun b hb => (hpk0 b hb).elim⟩, fun b hb => ?_, hK.lt, Nat.le_trans hK.sz h.size, fun b hb => ?_⟩⟩
  · refine ⟨hidle b h1, ?_, h.own b h2⟩
    rcases h.blk b h1.1 with e | ⟨_, arr, _, e, _⟩
    · exact e
    · rw [h3] at e; cases e
  · have hk1 : k < c1.w.heap.size := Nat.lt_of_lt_of_le hk hok.base
    exact (hsame k hk1 fun hp => by have := hpb k hp; omega).trans (hbel.block k hk)
  · obtain ⟨k1, k2, k3⟩ := hK.le.stable b hb hlt
    obtain ⟨k4, k5, k6⟩ := h.stable b k1 k2
    exact ⟨k4, k5, fun o => (k6 o).trans (k3 o)⟩
  · obtain ⟨⟨b', e'⟩, _⟩ := hH id blk e
    obtain ⟨b2, e2, _⟩ := hK.le.ids id b' hA e'
    rw [hH0] at e2
    cases e2
  · obtain ⟨k1, k2, k3⟩ := hK.only b hb
    exact ⟨hidle b k1, (hsame b k1.1 fun hp => by have := hpb b hp; have := hb.1; omega).trans k2, fun ho => h.own b (k3 ho)⟩
  · refine .inr fun hi => ?_
    have := hi.1
    rcases h.pkn b hb with h1 | h1
    · have := hpb b h1
      omega
    · have := hK.sz
      omega
end Go.Pv
namespace Go.Pv
set_option linter.unusedVariables false
open Go Go.RowKit
variable {P : Program} {T : Ty} {nt n0 : Nat}
theorem swp0_raw {c : Code} {Q : Exit → St → Prop} {st : St} (h : ∀ (S : Fr n0) (B : Nat) (W0 : World) (a : Act) (w : World), (∀ b, ¬ S.c0.pk b) → (∀ id, S.c0.H id = none) → B ≤ S.c0.w.heap.size → Sim S B nt W0 st a w → ∀ QQ : Exit → Act → World → Prop, (∀ e a' w' st', Q e st' → Sim S B nt W0 st' a' w' → QQ e a' w') → c.wp P QQ a w) : SWp0 P nt n0 c Q st :=
  fun S B W0 a w h1 h2 h3 hs => h S B W0 a w h1 h2 h3 hs _ fun e a' w' st' hq hs' => ⟨st', hq, hs'⟩
theorem SWp.run {c : Code} {Q : Exit → St → Prop} {st : St} {S : Fr n0} {B : Nat} {W0 : World} {a : Act} {w : World} (h : SWp P nt n0 c Q st) (hs : Sim S B nt W0 st a w) {QQ : Exit → Act → World → Prop} (hq : ∀ e a' w' st', Q e st' → Sim S B nt W0 st' a' w' → QQ e a' w') : c.wp P QQ a w :=
  wp_mono (h S B W0 a w hs) fun e a w ⟨st', h1, h2⟩ => hq e a w st' h1 h2
end Go.Pv
namespace Go.Pv
set_option linter.unusedVariables false
open Go Go.RowKit
variable {Te Tc : TypeId} {c1 c : Cx} {B : Nat}
theorem Lt.rep (h : Lt Te Tc c1 B c) (H : Nat → Option Blk) {p : PV} {v : Value} (hp : pur1 p = true ∨ ∃ T cs, p = .old T cs ∧ Sh Te Tc p) (r : Rep c1 false p v) : Rep (c1.back c H) false p v := by
  rcases hp with hp | ⟨T, cs, rfl, hs⟩
  · exact (@Rep.bare c1 (c1.back c H) (fun b h1 h2 => h.stable b h1 h2) true rfl _ _ (r.pur hp)).loose
  · cases r with
    | old _ _ _ hd => exact .old T cs v (h.sh _ _ hs hd)
theorem Lt.ptr (h : Lt Te Tc c1 B c) (H : Nat → Option Blk) {id i j tot : Nat} {v : Value} (r : Rep c1 false (.ptr id i j tot) v) (hH : ∀ blk', H id = some blk' → ∃ blk, c1.H id = some blk ∧ blk'.cs.len = blk.cs.len ∧ blk'.cs.w = blk.cs.w) : Rep (c1.back c H) false (.ptr id i j tot) v := by
  cases r with
  | ptr _ _ _ _ _ h1 h2 h3 =>
    refine .ptr id i j tot v h1 h2 fun blk' hb => ?_
    obtain ⟨blk, e, hl, hw⟩ := hH blk' hb
    obtain ⟨k1, k2⟩ := h3 blk e
    rw [hl, hw]
    exact ⟨k1, k2⟩
theorem Lt.box (h : Lt Te Tc c1 B c) (H : Nat → Option Blk) {w : Nat} {row row' : List PV} {e : TypeId} {V : Value} (hb : BlkOk c1 B V ⟨.rows w [row], true, e⟩) (hn : ∀ g, blkOf V = some g → ¬ c1.pk g)
    (ht : ∀ j, j < w → ∀ v, (∀ g, blkOf V = some g → c1.w.cell? ⟨g, j, none⟩ = some v) → Rep c1 false (row.getD j .any) v → Rep (c1.back c H) false (row'.getD j .any) v) : BlkOk (c1.back c H) B V ⟨.rows w [row'], true, e⟩ := by
  unfold BlkOk at hb ⊢
  rw [if_pos rfl] at hb ⊢
  obtain ⟨g, vs, Tb, rfl, hB, hh, hr⟩ := hb
  have hh : c1.w.heap[g]? = some (.cells vs.toArray Tb (0, 0)) := hh
  refine ⟨g, vs, Tb, rfl, hB, ?_, hr.1, fun i j hi hj => ?_⟩
  · show c.w.heap[g]? = _
    rw [(h.blk g (Array.getElem?_eq_some_iff.1 hh).1).resolve_right fun h' => hn g rfl h'.1]
    exact hh
  · have hi : i < 1 := hi
    have : i = 0 := by omega
    subst this
    obtain ⟨v, k1, k2, k3⟩ := hr.2 0 j (show 0 < 1 by omega) hj
    refine ⟨v, k1, ht j hj v (fun g' hg' => ?_) k2, k3⟩
    simp only [blkOf, Option.some.injEq] at hg'
    subst hg'
    have k1 : vs[0 * w + j]? = some v := k1
    rw [Nat.zero_mul, Nat.zero_add] at k1
    simp [World.cell?, hh, k1]
end Go.Pv


namespace Go.Pv
set_option linter.unusedVariables false
set_option linter.unusedSimpArgs false
open Go Go.RowKit
variable {P : Program} {T : Ty} {nt n0 : Nat} {Q : Exit → St → Prop} {st : St}

/-! ### The rules of walks, where nothing was parked at the start -/
theorem swp0_skip (h : Q .normal st) : SWp0 P nt n0 .skip Q st := (swp_skip h).to0
theorem swp0_exit {id : Nat} (h : Q (.exit id) st) : SWp0 P nt n0 (.exit id) Q st := (swp_exit h).to0
theorem swp0_ret (h : Q .ret st) : SWp0 P nt n0 .ret Q st := (swp_ret h).to0
theorem swp00_seq {x y : Code} (h : ∀ K : St → Prop, (∀ st, SWp0 P nt n0 y Q st → K st) → SWp0 P nt n0 x (thn K Q) st) : SWp0 P nt n0 (.seq x y) Q st := fun S B W0 a w h1 h2 h3 hs => by
  refine wp_seq (wp_mono (h (SWp0 P nt n0 y Q) (fun _ h => h) S B W0 a w h1 h2 h3 hs) ?_)
  rintro e a' w' ⟨st', k1, k2⟩
  cases e with
  | normal => exact k1 S B W0 a' w' h1 h2 h3 k2
  | _ => exact ⟨st', k1, k2⟩
theorem swp00_region (hT : TyOk P T) {id : Nat} {l : List Oper} (h : runs P T nt l l st fun st' => Q .normal st') : SWp0 P nt n0 (.region id l.toArray false) Q st := (swp_region hT h).to0
theorem swp00_draw (hT : TyOk P T) (hP : P.follows .mixedOrders = true) {id : Nat} {l : List Oper} {ms : List Nat} (hm : (chkM ms l 0 && chkT l ms l 0) = true)
    (h : runD P T nt l l st.n st.tm st.H [] fun fp tm H n => (chkH ms fp.reverse 0 && chkE ms st.n l.length fp.reverse 0) = true ∧ Q .normal ⟨tm, H, n⟩) : SWp0 P nt n0 (.region id l.toArray true) Q st := (swp_draw hT hP hm h).to0
theorem swp00_block {id : Nat} {c : Code} (h : SWp0 P nt n0 c (inBlk id Q) st) : SWp0 P nt n0 (.block id c) Q st := fun S B W0 a w h1 h2 h3 hs => by
  refine wp_block (wp_mono (h S B W0 a w h1 h2 h3 hs) ?_)
  rintro e a' w' ⟨st', k1, k2⟩
  cases e with
  | exit id' =>
    show if id' = id then _ else _
    have h1' : if id' = id then Q .normal st' else Q (.exit id') st' := k1
    split
    · rename_i he
      rw [if_pos he] at h1'
      exact ⟨st', h1', k2⟩
    · rename_i he
      rw [if_neg he] at h1'
      exact ⟨st', h1', k2⟩
  | _ => exact ⟨st', k1, k2⟩
theorem swp00_if {x : Operand} {c d : Code} (h : ∀ K : Bool → Prop, (∀ t, (t = true → SWp0 P nt n0 c Q st) → (t = false → SWp0 P nt n0 d Q st) → K t) → cnd (getT st.tm) x K) : SWp0 P nt n0 (.cond x c d) Q st := fun S B W0 a w h1 h2 h3 hs => by
  have := h (fun t => (t = true → SWp0 P nt n0 c Q st) ∧ (t = false → SWp0 P nt n0 d Q st)) fun t h1 h2 => ⟨h1, h2⟩
  unfold cnd at this
  split at this
  · rename_i t hx
    obtain ⟨cx, rfl, hH, hok, hfresh, hrep, hsz, hdef, hbel, hS⟩ := hs
    have hv : a.eval x = .bool t := by
      cases x with
      | tmp i =>
        have := hrep i
        simp only [ev] at hx
        rw [hx] at this
        show a.tmps.getD i undef = _
        generalize a.tmps.getD i undef = v at this
        cases this
        rfl
      | const v =>
        have := cst_ok (c := cx) [] (by simp) v false
        simp only [ev] at hx
        rw [hx] at this
        cases this
        rfl
      | func f => cases hx
      | global g => cases hx
    exact wp_cond_split hv (fun ht => this.1 ht S B W0 a cx.w h1 h2 h3 ⟨cx, rfl, hH, hok, hfresh, hrep, hsz, hdef, hbel, hS⟩) (fun ht => this.2 ht S B W0 a cx.w h1 h2 h3 ⟨cx, rfl, hH, hok, hfresh, hrep, hsz, hdef, hbel, hS⟩)
  · exact this.elim
theorem swp00_loop {c : Code} (k : Nat) (I : Nat → St → Prop) (m0 : Nat) (s0 : St) (hw : Weak n0 k st s0) (h0 : I m0 s0)
    (round : ∀ m s, I m s → ∀ K : St → Prop, (∀ s1 s2 m', m' < m → I m' s2 → Weak n0 k s1 s2 → K s1) → SWp0 P nt n0 c (thn K Q) s) : SWp0 P nt n0 (.loop c) Q st := fun S B W0 a w h1 h2 h3 hs => by
  refine wp_loop_ghost (fun m a w => ∃ s, I m s ∧ Sim S B nt W0 s a w) m0 ⟨s0, h0, weak_ok hs hw⟩ ?_
  rintro m a w ⟨s, hI, hs⟩
  refine wp_mono (round m s hI (fun s1 => ∃ s2 m', m' < m ∧ I m' s2 ∧ Weak n0 k s1 s2) (fun s1 s2 m' h1 h2 h3 => ⟨s2, m', h1, h2, h3⟩) S B W0 a w h1 h2 h3 hs) ?_
  rintro e a' w' ⟨s1, k1, k2⟩
  cases e with
  | normal =>
    obtain ⟨s2, m', k3, k4, k5⟩ := k1
    exact ⟨m', k3, s2, k4, weak_ok k2 k5⟩
  | _ => exact ⟨s1, k1, k2⟩

/-! ### What is told so that numbers may change -/
inductive Fz : PV → Prop where
  | int (k n) : Fz (.int k n)
  | uint (k) : Fz (.uint k)
  | bool (b) : Fz (.bool b)
  | str (s) : Fz (.str s)
  | ro (cs : Cells) (h : ∀ i j, i < cs.len → j < cs.w → Fz (cs.get i j)) : Fz (.ro cs)
inductive Bl : PV → Prop where
  | uint (k) : Bl (.uint k)
  | bool (b) : Bl (.bool b)
  | str (s) : Bl (.str s)
  | ro (cs : Cells) (h : ∀ i j, i < cs.len → j < cs.w → Fz (cs.get i j)) : Bl (.ro cs)
  | old (T : TypeId) (cs : Cells) (h : ∀ i j, i < cs.len → j < cs.w → Bl (cs.get i j)) : Bl (.old T cs)
theorem Dm.frozen {O Z : Nat → Prop} {w : World} {g : Nat} {arr : Array Value} (hO : ¬ O g) {p : PV} {v : Value} (r : Dm O Z w p v) : Fz p → Dm O Z (w.setRow g arr) p v := by
  induction r with
  | int k n => intro _; exact .int k n
  | uint k n => intro _; exact .uint k n
  | bool t => intro _; exact .bool t
  | str s => intro _; exact .str s
  | ro0 cs a cp h => intro _; exact .ro0 cs a cp h
  | ro cs b off cp f h0 hc hb hcell _ ih =>
    intro hn
    cases hn with
    | ro _ h => exact .ro cs b off cp f h0 hc hb (fun i j hi hj => ⟨(setRow_cell w g b arr (fun e => hO (e ▸ hb)) _).trans (hcell i j hi hj).1, (hcell i j hi hj).2⟩) fun i j hi hj => ih i j hi hj (h i j hi hj)
  | old0 => intro hn; cases hn
  | old => intro hn; cases hn
  | optO => intro hn; cases hn
  | optR => intro hn; cases hn
/-- A number in parked memory is changed. -/
theorem Dm.num {O Z : Nat → Prop} {w : World} {b0 q : Nat} {arr0 : Array Value} {Te : TypeId} {k0 : IntKind} {n0 n1 : Int} (hg : w.heap[b0]? = some (.cells arr0 Te (0, 0))) (hO : ¬ O b0) (hq : arr0[q]? = some (.int k0 n0)) {p : PV} {v : Value} (r : Dm O Z w p v) : Bl p → Dm O Z (w.setRow b0 (arr0.toList.take q ++ [Value.int k0 n1] ++ arr0.toList.drop (q + 1)).toArray) p v := by
  have hlt : q < arr0.size := (Array.getElem?_eq_some_iff.1 hq).1
  induction r with
  | int k n => intro hn; cases hn
  | uint k n => intro _; exact .uint k n
  | bool t => intro _; exact .bool t
  | str s => intro _; exact .str s
  | ro0 cs a cp h => intro _; exact .ro0 cs a cp h
  | ro cs b off cp f h0 hc hb hcell hr ih =>
    intro hn
    cases hn with
    | ro _ h => exact (Dm.ro cs b off cp f h0 hc hb hcell hr).frozen hO (.ro cs h)
  | old0 T cs a cp h => intro _; exact .old0 T cs a cp h
  | optO => intro hn; cases hn
  | optR => intro hn; cases hn
  | old T cs b off cp ar f h0 hc hb hh hcell hr ih =>
    intro hn
    cases hn with
    | old _ _ h =>
      by_cases hbg : b = b0
      · subst hbg
        have e := hg.symm.trans hh
        simp only [Option.some.injEq, Obj.cells.injEq, true_and, and_true] at e
        obtain ⟨e1, e2⟩ := e
        subst e1
        subst e2
        refine .old Te cs b off cp _ (fun i j => if off + (i * cs.w + j) = q then .int k0 n1 else f i j) h0 hc hb (setRow_heap w b arr0 _ Te (0, 0) hg) (fun i j hi hj => ?_) fun i j hi hj => ?_
        · rw [splice1 arr0 q _ hlt]
          by_cases hpq : off + (i * cs.w + j) = q
          · rw [if_pos hpq]; simp only [hpq, if_true]; exact ⟨trivial, rfl⟩
          · rw [if_neg hpq]; simp only [hpq, if_false]; exact hcell i j hi hj
        · by_cases hpq : off + (i * cs.w + j) = q
          · simp only [hpq, if_true]
            have h3 := hr i j hi hj
            have h4 : f i j = .int k0 n0 := by
              have := (hcell i j hi hj).1
              rw [hpq, hq] at this
              simpa using this.symm
            rw [h4] at h3
            have hbl := h i j hi hj
            generalize cs.get i j = p at h3 hbl
            cases hbl with
            | uint k => cases h3; exact .uint ..
            | bool b => exact absurd h3.bool_eq (by simp)
            | str s => cases h3
            | ro cs h => cases h3
            | old T cs h => cases h3
          · simp only [hpq, if_false]; exact ih i j hi hj (h i j hi hj)
      · exact .old T cs b off cp ar f h0 hc hb ((setRow_other w b0 b _ hbg).trans hh) hcell fun i j hi hj => ih i j hi hj (h i j hi hj)

/-- Nothing parked is spoken of. -/
def noO1 : PV → Bool
  | .old _ _ | .oldp _ _ _ _ | .fn _ (_ :: _) | .agg _ | .tup _ | .opt _ _ => false
  | _ => true
def noO : PV → Bool
  | .agg cs => cs.all noO1
  | p => noO1 p
/-- The slots of which nothing parked is told. -/
def fno : List Nat → List (Nat × PV) → List (Nat × PV)
  | _, [] => []
  | seen, (i, v) :: r => if seen.contains i then fno seen r else if noO v then (i, v) :: fno (i :: seen) r else fno (i :: seen) r
theorem fno_get : ∀ (tm : List (Nat × PV)) (seen : List Nat) (t : Nat), getT (fno seen tm) t = .any ∨ (seen.contains t = false ∧ getT (fno seen tm) t = getT tm t ∧ noO (getT tm t) = true)
  | [], seen, t => .inl rfl
  | (i, v) :: r, seen, t => by
    unfold fno
    split
    · rename_i hs
      rcases fno_get r seen t with h | ⟨h1, h2, h3⟩
      · exact .inl h
      · have hne : ¬ i = t := fun e => by subst e; rw [hs] at h1; cases h1
        refine .inr ⟨h1, ?_, ?_⟩
        · rw [h2]; show _ = if i = t then v else getT r t; rw [if_neg hne]
        · show noO (if i = t then v else getT r t) = true; rw [if_neg hne]; exact h3
    · rename_i hs
      split
      · rename_i hv
        by_cases hit : i = t
        · subst hit
          refine .inr ⟨by simpa using hs, ?_, ?_⟩
          · show (if i = i then v else _) = if i = i then v else _; rw [if_pos rfl, if_pos rfl]
          · show noO (if i = i then v else _) = true; rw [if_pos rfl]; exact hv
        · rcases fno_get r (i :: seen) t with h | ⟨h1, h2, h3⟩
          · left; show (if i = t then v else _) = _; rw [if_neg hit]; exact h
          · simp only [List.contains_cons, Bool.or_eq_false_iff] at h1
            refine .inr ⟨h1.2, ?_, ?_⟩
            · show (if i = t then v else _) = if i = t then v else _; rw [if_neg hit, if_neg hit]; exact h2
            · show noO (if i = t then v else _) = true; rw [if_neg hit]; exact h3
      · rcases fno_get r (i :: seen) t with h | ⟨h1, h2, h3⟩
        · exact .inl h
        · simp only [List.contains_cons, Bool.or_eq_false_iff] at h1
          have hne : ¬ i = t := fun e => by subst e; simp at h1
          refine .inr ⟨h1.2, ?_, ?_⟩
          · rw [h2]; show _ = if i = t then v else getT r t; rw [if_neg hne]
          · show noO (if i = t then v else getT r t) = true; rw [if_neg hne]; exact h3
def BlP (p : PV) : Prop := noO1 p = true ∨ ∃ T cs, p = .old T cs ∧ Bl (.old T cs)
def BlB (b : Blk) : Prop := match b.cs with
  | .lp _ _ => False
  | cs => b.box = true → ∀ i j, BlP (cs.get i j)
structure BlH (H : List (Nat × Option Blk)) : Prop where
  h : ∀ id b, getH H id = some b → BlB b

/-- Of one context to the next: a parked block is written. -/
structure Wr (b0 : Nat) (c c2 : Cx) : Prop where
  w : ∃ arr0 Te arr, c.w.heap[b0]? = some (.cells arr0 Te (0, 0)) ∧ c2.w = c.w.setRow b0 arr
  ow : c2.ow = c.ow
  pk : c2.pk = c.pk
  loc : c2.loc = c.loc
  A : c2.A = c.A
  H : c2.H = c.H
  own : c.ow b0
theorem Wr.stab {b0 : Nat} {c c2 : Cx} (h : Wr b0 c c2) (b : Nat) (hb : ¬ c.ow b) (hlt : b < c.w.heap.size) : ¬ c2.ow b ∧ b < c2.w.heap.size ∧ ∀ o, c2.w.cell? ⟨b, o, none⟩ = c.w.cell? ⟨b, o, none⟩ := by
  obtain ⟨arr0, Te, arr, h1, h2⟩ := h.w
  rw [h.ow, h2, setRow_size]
  exact ⟨hb, hlt, fun o => setRow_cell c.w b0 b arr (fun e => hb (e ▸ h.own)) o⟩
theorem Wr.rep1 {b0 : Nat} {c c2 : Cx} (h : Wr b0 c c2) {q : Bool} {p : PV} {v : Value} (hp : noO1 p = true) (r : Rep c q p v) : Rep c2 q p v := by
  cases r with
  | any _ v => exact .any _ v
  | bool _ b => exact .bool _ b
  | int _ k n => exact .int _ k n
  | str _ s => exact .str _ s
  | nilf => exact .nilf _
  | nil _ cs a e => exact .nil _ cs a e
  | ro0 _ cs a cp e => exact .ro0 _ cs a cp e
  | ro _ cs b off cp f h0 hc hb' hlt hcell hr =>
    obtain ⟨h1, h2, h3⟩ := h.stab b hb' hlt
    exact .ro _ cs b off cp f h0 hc h1 h2 (fun i j hi hj => ⟨(h3 _).trans (hcell i j hi hj).1, (hcell i j hi hj).2⟩) (fun i j hi hj => @Rep.bare c c2 h.stab true rfl _ _ (hr i j hi hj))
  | rop _ cs i0 j0 b off f hb' hlt hcell hr =>
    obtain ⟨h1, h2, h3⟩ := h.stab b hb' hlt
    exact .rop _ cs i0 j0 b off f h1 h2 (fun i j hi hj => ⟨(h3 _).trans (hcell i j hi hj).1, (hcell i j hi hj).2⟩) (fun i j hi hj => @Rep.bare c c2 h.stab true rfl _ _ (hr i j hi hj))
  | sl id off n tot v ha hs hk => exact .sl id off n tot v (by rw [h.A]; exact ha) hs fun blk hb => by rw [h.loc]; exact hk blk (by rw [← h.H]; exact hb)
  | ptr id i j tot v ha hs hk => exact .ptr id i j tot v (by rw [h.A]; exact ha) hs fun blk hb => by rw [h.loc]; exact hk blk (by rw [← h.H]; exact hb)
  | asl id j n v ha hs hk => exact .asl id j n v (by rw [h.A]; exact ha) hs fun blk hb => by rw [h.loc]; exact hk blk (by rw [← h.H]; exact hb)
  | yld id v ha hs hk => exact .yld id v (by rw [h.A]; exact ha) hs fun blk hb => by rw [h.loc]; exact hk blk (by rw [← h.H]; exact hb)
  | fn _ f caps vs h1 h2 =>
    cases caps with
    | nil => exact .fn _ f [] vs h1 (fun i q v h => by simp at h)
    | cons => simp [noO1] at hp
  | agg => simp [noO1] at hp
  | tup => simp [noO1] at hp
  | opt => simp [noO1] at hp
  | old => simp [noO1] at hp
  | oldp => simp [noO1] at hp
  | uint _ k n => exact .uint _ k n
theorem Wr.rep {b0 : Nat} {c c2 : Cx} (h : Wr b0 c c2) {p : PV} {v : Value} (hp : noO p = true) (r : Rep c false p v) : Rep c2 false p v := by
  cases p with
  | agg cs =>
    cases r with
    | agg _ _ vs h1 h2 => exact .agg _ cs vs h1 fun i p v h3 h4 => h.rep1 (List.all_eq_true.1 hp p (List.mem_of_getElem? h3)) (h2 i p v h3 h4)
  | _ => exact h.rep1 hp r

/-- A number is written into parked memory: the state. -/
theorem sim_num {S : Fr n0} {B : Nat} {W0 : World} {a : Act} {w : World} (hpk0 : ∀ b, ¬ S.c0.pk b) (hH0 : ∀ id, S.c0.H id = none) (hBN : B ≤ S.c0.w.heap.size) (hs : Sim S B nt W0 st a w) (hbl : BlH st.H) {b0 q : Nat} {arr0 : Array Value} {Te : TypeId} {k0 : IntKind} {m0 m1 : Int} (d : Option Nat)
    (hb0 : ∀ c : Cx, c.w = w → HeapOk c B → (∀ t, Rep c false (getT st.tm t) (a.tmps.getD t undef)) → c.pk b0) (hg : w.heap[b0]? = some (.cells arr0 Te (0, 0))) (hq : arr0[q]? = some (.int k0 m0)) :
    Sim S B nt W0 ⟨fno (d.toList) st.tm, st.H, st.n⟩ (a.put d undef) (w.setRow b0 (arr0.toList.take q ++ [Value.int k0 m1] ++ arr0.toList.drop (q + 1)).toArray) := by
  obtain ⟨c, rfl, hH, hok, hfresh, hrep, hsz, hdef, hbel, hS⟩ := hs
  have hpb := hb0 c rfl hok hrep
  obtain ⟨how0, hid0, _⟩ := hok.pk b0 hpb
  let arr := (arr0.toList.take q ++ [Value.int k0 m1] ++ arr0.toList.drop (q + 1)).toArray
  let c2 : Cx := { c with w := c.w.setRow b0 arr }
  have hwr : Wr b0 c c2 := ⟨⟨arr0, Te, arr, hg, rfl⟩, rfl, rfl, rfl, rfl, rfl, how0⟩
  have hsize : c2.w.heap.size = c.w.heap.size := setRow_size ..
  have hpbS : S.c0.w.heap.size ≤ b0 := (hS.pkn b0 hpb).elim (fun h => (hpk0 b0 h).elim) fun h => Nat.le_of_not_lt fun hlt => h ⟨hlt, fun id blk e => by rw [hH0] at e; cases e⟩
  have hO : ¬ c.fz b0 := fun h => h.1 how0
  have hold : ∀ {T cs v}, Bl (.old T cs) → Rep c false (.old T cs) v → Rep c2 false (.old T cs) v := fun hbl r => by
    cases r with
    | old _ _ _ hd => exact .old _ _ _ (hd.num (n1 := m1) hg hO hq hbl).fz_set
  have hne : ∀ id blk g, c.H id = some blk → blkOf (c.loc id) = some g → g ≠ b0 := fun id blk g h1 h2 e => hid0.2 id blk h1 (e ▸ h2)
  have hok2 : HeapOk c2 B := by
    refine ⟨fun id blk hb => ?_, hok.own, hok.inj, by rw [hsize]; exact hok.base, fun b hb => by rw [hsize]; exact hok.lt b hb, fun b hb => ?_⟩
    · obtain ⟨h1, h2⟩ := hok.ok id blk hb
      refine ⟨h1, ?_⟩
      have hbb := hbl.h id blk (by rw [← hH]; exact hb)
      unfold BlkOk at h2 ⊢
      split
      · rename_i hbox
        rw [if_pos hbox] at h2
        obtain ⟨g, vs, Tb, e1, e2, e3, e4⟩ := h2
        have hgne : g ≠ b0 := hne id blk g hb (by rw [e1]; rfl)
        have hnl : ∀ L q, blk.cs ≠ .lp L q := fun L q e => by unfold BlB at hbb; rw [e] at hbb; exact hbb
        refine ⟨g, vs, Tb, e1, e2, Hb.mk ((setRow_other c.w b0 g arr hgne).trans (e3.row hnl)) hnl, e4.1, fun i j hi hj => ?_⟩
        obtain ⟨v, k1, k2, k3⟩ := e4.2 i j hi hj
        refine ⟨v, k1, ?_, k3⟩
        have hbp : BlP (blk.cs.get i j) := by
          unfold BlB at hbb
          split at hbb
          · exact hbb.elim
          · exact hbb hbox i j
        rcases hbp with hp | ⟨T', cs', e, hb'⟩
        · exact hwr.rep1 hp k2
        · rw [e] at k2 ⊢
          exact hold hb' k2
      · rename_i hbox
        rw [if_neg hbox] at h2
        obtain ⟨vs, e1, e2⟩ := h2
        refine ⟨vs, ⟨e1.1, ?_⟩, e2.1, fun i j hi hj => ?_⟩
        · rcases e1.2 with h | ⟨g, cap, cur, k1, k2, k3, rest⟩
          · exact .inl h
          · exact .inr ⟨g, cap, cur, k1, k2, (setRow_other c.w b0 g arr (hne id blk g hb (by rw [k1]; rfl))).trans k3, rest⟩
        · obtain ⟨v, k1, k2, k3⟩ := e2.2 i j hi hj
          exact ⟨v, k1, @Rep.bare c c2 hwr.stab true rfl _ _ k2, k3⟩
    · obtain ⟨h1, h2, vs, T', h3⟩ := hok.pk b hb
      refine ⟨h1, ⟨by rw [hsize]; exact h2.1, h2.2⟩, ?_⟩
      by_cases hbb : b = b0
      · subst hbb
        exact ⟨_, _, setRow_heap c.w b arr0 arr Te (0, 0) hg⟩
      · exact ⟨vs, T', (setRow_other c.w b0 b arr hbb).trans h3⟩
  refine ⟨c2, rfl, hH, hok2, hfresh, fun t => ?_, by rw [put_size]; exact hsz, ?_, ⟨hbel.os, hbel.tape, hbel.output, by rw [show (c.w.setRow b0 arr).heap.size = c.w.heap.size from setRow_size ..]; exact hbel.size, fun k hk => (setRow_other c.w b0 k arr (by omega)).trans (hbel.block k hk)⟩, ⟨hS.s, ⟨fun b hb hlt => ?_, hS.le.all, hS.le.ids, fun b hb => (hpk0 b hb).elim⟩, fun b hb => ?_, hS.lt, by rw [hsize]; exact hS.sz, hS.pkn⟩⟩
  · rcases fno_get st.tm d.toList t with h | ⟨h1, h2, h3⟩
    · rw [show getT (fno d.toList st.tm) t = .any from h]; exact .any ..
    · rw [show getT (fno d.toList st.tm) t = getT st.tm t from h2]
      have e : (a.put d undef).tmps.getD t undef = a.tmps.getD t undef := by
        cases d with
        | none => rfl
        | some d =>
          have hdt : ¬ d = t := fun e => by subst e; simp at h1
          simp [Act.put, Array.getD_eq_getD_getElem?, Array.getElem?_setIfInBounds, hdt]
      rw [e]
      exact hwr.rep h3 (hrep t)
  · rw [put_defers]
    refine Dfs.to2 (c := c) (c' := c2) (fun b l h1 h2 h3 => ⟨⟨by rw [hsize]; exact h1.1, h1.2⟩, setRow_other c.w b0 b arr (fun e => ?_), h2⟩) hdef
    subst e
    rw [hg] at h3
    cases h3
  · obtain ⟨k1, k2, k3⟩ := hS.le.stable b hb hlt
    obtain ⟨k4, k5, k6⟩ := hwr.stab b k1 k2
    exact ⟨k4, k5, fun o => (k6 o).trans (k3 o)⟩
  · obtain ⟨k1, k2, k3⟩ := hS.only b hb
    exact ⟨⟨by rw [hsize]; exact k1.1, k1.2⟩, (setRow_other c.w b0 b arr (by have := hb.1; omega)).trans k2, k3⟩
end Go.Pv


namespace Go.Pv
set_option linter.unusedVariables false
set_option linter.unusedSimpArgs false
open Go Go.RowKit
variable {P : Program} {T : Ty} {nt n0 : Nat} {Q : Exit → St → Prop} {st : St}

/-! ### Regions that read parked memory, and write numbers into it -/
def okL : PV → Bool
  | .int _ _ | .uint _ | .bool _ | .old _ _ => true
  | _ => false
def ood (T : Ty) (o : Oper) (tm : Nat → PV) : Option (Prop × PV) := match o.op with
  | .call c => (match c.callee, c.args.toList, c.argTypes.toList with
    | .builtin .len, [x], [t] => (match ev T tm t x, T t with
      | .old _ cs, some ti => (match ti.k with
        | .slice _ => some (True, .int .i64 cs.len)
        | _ => none)
      | _, _ => none)
    | _, _, _ => none)
  | .indexAddr t x ix => (match ev T tm t x, ev T tm 0 ix, T t with
    | .old e cs, .int _ i, some ti => (match ti.k with
      | .slice e' => (match T e' with
        | some te => some (0 ≤ i ∧ i < cs.len ∧ cs.w = te.sz, .oldp e cs i.toNat 0)
        | none => none)
      | _ => none)
    | _, _, _ => none)
  | .fieldAddr t x f => (match ev T tm 0 x, T t with
    | .oldp e cs i j, some ti => (match ti.k with
      | .struct fs => (match fs[f]? with
        | some (ft, off) => (match T ft with
          | some tf => some (0 < tf.sz, .oldp e cs i (j + off))
          | none => none)
        | none => none)
      | _ => none)
    | _, _ => none)
  | .load t x => (match ev T tm 0 x, T t with
    | .oldp e cs i j, some ti => some (ti.k.agg = false ∧ i < cs.len ∧ j < cs.w ∧ okL (cs.get i j) = true, cs.get i j)
    | _, _ => none)
  | .binOp .add t x y u => (match ev T tm t x, ev T tm u y with
    | .uint k, .int k' _ => some (k' = k, .uint k)
    | _, _ => none)
  | _ => none
def stu (T : Ty) (o : Oper) (tm : Nat → PV) : Option Prop := match o.op with
  | .store t x y => (match ev T tm 0 x, ev T tm t y, T t with
    | .oldp e cs i j, .uint k, some ti => some (ti.k = .int k ∧ i < cs.len ∧ j < cs.w ∧ cs.get i j = .uint k)
    | _, _, _ => none)
  | _ => none
def runsO (P : Program) (T : Ty) (nt : Nat) : List Oper → St → (St → Prop) → Prop
  | [], st, K => K st
  | o :: os, st, K => o.guard = none ∧ (match ood T o (getT st.tm) with
    | some (c, v) => c ∧ runsO P T nt os ⟨putT nt st.tm o.dst v, st.H, st.n⟩ K
    | none => match stu T o (getT st.tm) with
      | some c => c ∧ o.dst = none ∧ BlH st.H ∧ runsO P T nt os ⟨fno [] st.tm, st.H, st.n⟩ K
      | none => step1 P T o (getT st.tm) (getH st.H) st.n true fun pv eff => runsO P T nt os ⟨putT nt st.tm o.dst pv, onL eff st.H, nxt eff st.n⟩ K)

theorem old_rep {c : Cx} {e : TypeId} {cs : Cells} {v : Value} (r : Rep c false (.old e cs) v) : Dm c.fz c.pk c.w (.old e cs) v := by cases r with | old _ _ _ h => exact h
theorem oldp_rep {c : Cx} {e : TypeId} {cs : Cells} {i j : Nat} {v : Value} (r : Rep c false (.oldp e cs i j) v) : ∃ (b off : Nat) (arr : Array Value) (f : Nat → Nat → Value), v = .pointer (some ⟨b, off + (i * cs.w + j), none⟩) ∧ c.pk b ∧ c.w.heap[b]? = some (.cells arr e (0, 0)) ∧
    (∀ i j, i < cs.len → j < cs.w → arr[off + (i * cs.w + j)]? = some (f i j) ∧ (f i j).oneCell' = true) ∧ ∀ i j, i < cs.len → j < cs.w → Dm c.fz c.pk c.w (cs.get i j) (f i j) := by
  cases r with
  | oldp _ _ _ _ b off arr f h1 h2 h3 h4 => exact ⟨b, off, arr, f, rfl, h1, h2, h3, h4⟩

theorem ood_ok (hT : TyOk P T) {c : Cx} {a : Act} {o : Oper} {tm : Nat → PV} {C : Prop} {pv : PV} (hrep : ∀ t, Rep c false (tm t) (a.tmps.getD t undef)) (h : ood T o tm = some (C, pv)) (hC : C) : ∃ v, (execOp a.eval o).run P c.w = .ok (.value v) c.w ∧ Rep c false pv v := by
  have hev := fun t x => ev_ok (a := a) (c := c) hT hrep t x
  have pure_ : ∀ {s : Sem Value} {v : Value}, execOp a.eval o = (do pure (.value (← s))) → s.run P c.w = .ok v c.w → Rep c false pv v → ∃ v, (execOp a.eval o).run P c.w = .ok (.value v) c.w ∧ Rep c false pv v := fun {s v} he hr hk => ⟨v, by rw [he]; simp only [Sem.run_bind, hr, Result.andThen_ok, Sem.run_pure], hk⟩
  unfold ood at h
  split at h
  · rename_i cl hop
    obtain ⟨callee, args, ats⟩ := cl
    obtain ⟨args⟩ := args
    obtain ⟨ats⟩ := ats
    dsimp only at h
    split at h
    · rename_i x t
      split at h
      · rename_i e cs ti he ht
        split at h
        · rename_i e' hk
          simp only [Option.some.injEq, Prod.mk.injEq] at h
          obtain ⟨_, rfl⟩ := h
          have hx := hev t x
          rw [he] at hx
          have hs : ∃ A cp, a.eval x = .slice A cs.len cp := by
            have := old_rep hx
            generalize a.eval x = v at this
            cases this with
            | old0 _ _ A cp e => exact ⟨A, cp, by rw [e]⟩
            | old => exact ⟨_, _, rfl⟩
          obtain ⟨A, cp, hv⟩ := hs
          refine pure_ (s := Builtin.len_ (List.toArray [t]) o.type ((List.toArray [x]).map a.eval)) (by simp only [execOp, hop]; rfl) ?_ (.int ..)
          have := len_run (hT.slice t ti e' ht hk).1 o.type (v := a.eval x) (r := cs.len) (.inl ⟨e', A, cp, rfl, hv⟩) c.w
          simpa using this
        · cases h
      · cases h
    · cases h
  · rename_i t x ix hop
    split at h
    · rename_i e cs k i ti he hi ht
      split at h
      · rename_i e' hk
        split at h
        · rename_i te hte
          simp only [Option.some.injEq, Prod.mk.injEq] at h
          obtain ⟨rfl, rfl⟩ := h
          obtain ⟨h0, h1, h2⟩ := hC
          have hx := hev t x
          rw [he] at hx
          have hi' := hev 0 ix
          rw [hi] at hi'
          have hiv : a.eval ix = .int k i := by generalize a.eval ix = v at hi'; cases hi'; rfl
          have hd := old_rep hx
          have hlen : 0 < cs.len := by omega
          obtain ⟨b, off, cp, arr, f, hv, hb, hh, hcell, hr⟩ : ∃ (b off cp : Nat) (arr : Array Value) (f : Nat → Nat → Value), a.eval x = .slice (some ⟨b, off, none⟩) cs.len cp ∧ c.pk b ∧ c.w.heap[b]? = some (.cells arr e (0, 0)) ∧ (∀ i j, i < cs.len → j < cs.w → arr[off + (i * cs.w + j)]? = some (f i j) ∧ (f i j).oneCell' = true) ∧ ∀ i j, i < cs.len → j < cs.w → Dm c.fz c.pk c.w (cs.get i j) (f i j) := by
            generalize a.eval x = v at hd
            cases hd with
            | old0 _ _ A cp e => omega
            | old _ _ b off cp arr f _ _ hb hh hcell hr => exact ⟨b, off, cp, arr, f, rfl, hb, hh, hcell, hr⟩
          refine pure_ (s := Instr.indexAt t (a.eval x) (a.eval ix)) (v := .pointer (some ⟨b, off + (i.toNat * cs.w + 0), none⟩)) (by simp only [execOp, hop]) ?_ (.oldp e cs i.toNat 0 b off arr f hb hh hcell hr)
          rw [hv, hiv, h2]
          exact index_run hT ht hk hte b off cs.len cp k i h0 h1 c.w
        · cases h
      · cases h
    · cases h
  · rename_i t x f hop
    split at h
    · rename_i e cs i j ti he ht
      split at h
      · rename_i fs hk
        split at h
        · rename_i ft off hf
          split at h
          · rename_i tf htf
            simp only [Option.some.injEq, Prod.mk.injEq] at h
            obtain ⟨rfl, rfl⟩ := h
            have hx := hev 0 x
            rw [he] at hx
            obtain ⟨b, o', arr, g, hv, hb, hh, hcell, hr⟩ := oldp_rep hx
            refine pure_ (s := Instr.fieldAt t (a.eval x) f) (v := .pointer (some ⟨b, o' + (i * cs.w + (j + off)), none⟩)) (by simp only [execOp, hop]) ?_ (.oldp e cs i (j + off) b o' arr g hb hh hcell hr)
            rw [hv, show o' + (i * cs.w + (j + off)) = o' + (i * cs.w + j) + off by omega]
            exact field_run hT ht hk hf htf hC b _ c.w
          · cases h
        · cases h
      · cases h
    · cases h
  · rename_i t x hop
    split at h
    · rename_i e cs i j ti he ht
      simp only [Option.some.injEq, Prod.mk.injEq] at h
      obtain ⟨rfl, rfl⟩ := h
      obtain ⟨h1, h2, h3, h4⟩ := hC
      have hx := hev 0 x
      rw [he] at hx
      obtain ⟨b, o', arr, g, hv, hb, hh, hcell, hr⟩ := oldp_rep hx
      obtain ⟨d, hd, hd', _⟩ := plain_of hT ht h1
      have hc : c.w.cell? ⟨b, o' + (i * cs.w + j), none⟩ = some (g i j) := by simp [World.cell?, hh, (hcell i j h2 h3).1]
      refine pure_ (s := Instr.loadAt t (a.eval x)) (v := g i j) (by simp only [execOp, hop]) ?_ ?_
      · rw [hv]
        simp only [Instr.loadAt, Instr.sureAddr, loadVar, Sem.run_bind, Sem.run_pure, Result.andThen_ok, isAgg_run hd, hd', Bool.false_eq_true, if_false]
        simp [load, Sem.run, hc]
      · have hg := hr i j h2 h3
        generalize cs.get i j = p at hg h4
        generalize g i j = u at hg
        cases hg with
        | int => exact .int ..
        | uint => exact .uint ..
        | bool => exact .bool ..
        | old0 _ _ a cp e => exact .old _ _ _ (.old0 _ _ _ _ e)
        | old T' cs' b off cp ar f k0 k1 k2 k3 k4 k5 => exact .old _ _ _ (.old T' cs' b off cp ar f k0 k1 k2 k3 k4 k5)
        | str => simp [okL] at h4
        | ro0 => simp [okL] at h4
        | ro => simp [okL] at h4
        | optO => simp [okL] at h4
        | optR => simp [okL] at h4
    · cases h
  · rename_i t x y u hop
    split at h
    · rename_i k k' b he1 he2
      simp only [Option.some.injEq, Prod.mk.injEq] at h
      obtain ⟨rfl, rfl⟩ := h
      subst hC
      have hx := hev t x
      rw [he1] at hx
      have hy := hev u y
      rw [he2] at hy
      obtain ⟨n, hv⟩ : ∃ n, a.eval x = .int k' n := by generalize a.eval x = v at hx; cases hx; exact ⟨_, rfl⟩
      rw [hv] at hx
      obtain ⟨r, pv', h1, h2, h3⟩ := bin_ok hT (xo := x) (yo := y) (op := .add) (xt := t) (c := c) (.int false k' n) hy (K := fun pv => ∃ m, pv = .int k' m) (by simp [bin, ops2])
      obtain ⟨m, rfl⟩ := h3
      cases h2
      refine pure_ (s := do eqGuard .add t x y (a.eval x) (a.eval y); binOp .add t (a.eval x) (a.eval y)) (by simp only [execOp, hop]) (by rw [hv]; exact h1) (.uint ..)
    · cases h
  · cases h

theorem runsO_ok (hT : TyOk P T) {S : Fr n0} {B : Nat} {W0 : World} (hpk0 : ∀ b, ¬ S.c0.pk b) (hH0 : ∀ id, S.c0.H id = none) (hBN : B ≤ S.c0.w.heap.size) {ops : Array Oper} {Q : Exit → Act → World → Prop} {K : St → Prop} (hQ : ∀ st a w, K st → Sim S B nt W0 st a w → Q .normal a w) :
    ∀ (l : List Oper) (st : St) (a : Act) (w : World), runsO P T nt l st K → Sim S B nt W0 st a w → wpList P ops Q l a w
  | [], st, a, w, h, hs => hQ st a w h hs
  | o :: l, st, a, w, ⟨hg, h⟩, hs => by
    unfold wpList
    have hw : Region.wanted o (yielded ops a.tmps) = true := by unfold Region.wanted; rw [hg]
    rw [hw, if_pos rfl]
    left
    have hs0 := hs
    obtain ⟨c, rfl, hH, hok, hfresh, hrep, hsz, hdef, hbel, hS⟩ := hs
    split at h
    · rename_i C v ho
      obtain ⟨hC, hk⟩ := h
      obtain ⟨u, hr, hv⟩ := ood_ok hT hrep ho hC
      unfold Oper.wp
      rw [hr]
      exact runsO_ok hT hpk0 hH0 hBN hQ l _ _ _ hk ⟨c, rfl, hH, hok, hfresh, fun t => put_rep hrep hsz o.dst hv t, by rw [put_size]; exact hsz, by rw [put_defers]; exact hdef, hbel, hS⟩
    · split at h
      · rename_i C ho
        obtain ⟨hC, hd, hbl, hk⟩ := h
        unfold stu at ho
        split at ho
        · rename_i t x y hop
          split at ho
          · rename_i e cs i j k ti he1 he2 ht
            simp only [Option.some.injEq] at ho
            subst ho
            obtain ⟨h1, h2, h3, h4⟩ := hC
            have hx := ev_ok (a := a) (c := c) hT hrep 0 x
            rw [he1] at hx
            have hy := ev_ok (a := a) (c := c) hT hrep t y
            rw [he2] at hy
            obtain ⟨n1, hv1⟩ : ∃ n, a.eval y = .int k n := by generalize a.eval y = v at hy; cases hy; exact ⟨_, rfl⟩
            obtain ⟨b, off, arr, f, hv, hb, hh, hcell, hr⟩ := oldp_rep hx
            obtain ⟨hc1, hc2⟩ := hcell i j h2 h3
            have hd1 := hr i j h2 h3
            rw [h4] at hd1
            obtain ⟨m0, hm0⟩ : ∃ n, f i j = .int k n := by generalize f i j = v at hd1; cases hd1; exact ⟨_, rfl⟩
            rw [hm0] at hc1
            have hti : ti.sz = 1 := (hT.int t ti k ht h1).2
            have hlt : off + (i * cs.w + j) < arr.size := (Array.getElem?_eq_some_iff.1 hc1).1
            have hrun := run_storeCells_at P b (off + (i * cs.w + j)) e [Value.int k n1] 0 arr c.w hh (by simp; omega) (fun u hu => by simp at hu; subst hu; rfl)
            simp only [Nat.add_zero, List.length_singleton] at hrun
            have hex : (execOp a.eval o).run P c.w = .ok .skip (c.w.setRow b (arr.toList.take (off + (i * cs.w + j)) ++ [Value.int k n1] ++ arr.toList.drop (off + (i * cs.w + j) + 1)).toArray) := by
              have hcs : (Value.int k n1).cells = #[Value.int k n1] := rfl
              simp only [execOp, hop, hv, hv1, Instr.storeAt, Instr.sureAddr, storeVar, Sem.run_bind, Sem.run_pure, Result.andThen_ok, sizeOf_run hT ht, hcs, hti, List.size_toArray, List.length_singleton, ne_eq, not_true_eq_false, if_false, hrun]
            unfold Oper.wp
            rw [hex]
            have hsim := sim_num (m1 := n1) hpk0 hH0 hBN hs0 hbl none (fun c' e1 e2 e3 => ?_) hh hc1
            · show wpList P ops Q l (a.put o.dst undef) _
              rw [hd]
              exact runsO_ok hT hpk0 hH0 hBN hQ l _ _ _ hk hsim
            · have hx' := ev_ok (a := a) (c := c') hT e3 0 x
              rw [he1, hv] at hx'
              obtain ⟨b', off', _, _, hv', hb', _⟩ := oldp_rep hx'
              simp only [Value.pointer.injEq, Option.some.injEq, Addr.mk.injEq] at hv'
              rw [hv'.1]
              exact hb'
          · cases ho
        · cases ho
      · have hn8 : ∀ q, q < 8 → ¬ c.A (st.n + q) := fun q _ => hfresh _ (by omega)
        refine step1_ok hT hok hn8 hrep (by rw [hH]; exact h) _ _ fun pv eff v c' hk hp hpost => ?_
        refine runsO_ok hT hpk0 hH0 hBN hQ l _ _ _ hk ⟨c', rfl, ?_, hpost.heap, fun id hid hA => ?_, fun t => put_rep (fun t => (hrep t).mono hpost.le) hsz o.dst hp t, by rw [put_size]; exact hsz, by rw [put_defers]; exact hdef.to hpost.only, hbel.trans hpost.below, hS.post hpost⟩
        · rw [hpost.H, hH, getH_on]
        · have hge := nxt_ge eff st.n
          rcases (hpost.A id).1 hA with h | h
          · exact hfresh id (by have : nxt eff st.n ≤ id := hid; omega) h
          · obtain ⟨p, hp, rfl⟩ := List.mem_map.1 h
            have : nxt eff st.n ≤ p.1 := hid
            have := hge.2 p hp
            omega
theorem swp00_regionO (hT : TyOk P T) {id : Nat} {l : List Oper} (h : runsO P T nt l st fun st' => Q .normal st') : SWp0 P nt n0 (.region id l.toArray false) Q st := fun S B W0 a w h1 h2 h3 hs =>
  wp_region_list (by
    have : l.toArray.toList = l := rfl
    rw [this]
    exact runsO_ok hT h1 h2 h3 (K := fun st' => Q .normal st') (fun st' a' w' hk hs' => ⟨st', hk, hs'⟩) l st a w h hs)
end Go.Pv


namespace Go.Pv
set_option linter.unusedVariables false
set_option linter.unusedSimpArgs false
open Go Go.RowKit
variable {P : Program} {T : Ty} {nt n0 : Nat} {Q : Exit → St → Prop} {st : St}

/-- A function's contract, out of a walk of its body. -/
theorem pcall_body0 (hT : TyOk P T) {f : FuncId} {fn : Func} {code : Code} {ps : List PV} {r : PV} (hf : P.funcs[f]? = some fn) (hb : fn.body = some code) (hname : (fn.name == "runtime.NumGoroutine") = false) (hlen : ps.length ≤ fn.ntmps)
    (h : SWp0 P fn.ntmps 0 code (fnPost T fn r) ⟨argT 0 ps, [], 0⟩) : PCall P f ps r := by
  refine ⟨⟨fn, hf, hname, by rw [hb]; rfl⟩, fun w vs S hS hargs => ?_⟩
  have hsz : vs.size ≤ fn.ntmps := by rw [← hargs.1]; exact hlen
  refine calls_of_marks hf hb (wp_mono (h ⟨S, see S w⟩ w.heap.size w _ w (fun b h => h) (fun id => rfl) (Nat.le_refl _) ⟨see S w, rfl, rfl, ⟨(fun id blk h => by cases h), (fun id blk g h => by cases h), (fun i1 i2 b1 b2 g h => by cases h), Nat.le_refl _, hS, fun b hb => hb.elim⟩, fun _ _ h => h, fun t => ?_, by simp; omega, trivial, Below.refl _ _, ⟨fun b hb => ⟨hS b hb, hb⟩, .refl _, fun b h => ⟨h, rfl, fun h => h⟩, fun id h => h.elim, Nat.le_refl _, fun b hb => .inl hb⟩⟩) ?_)
  · rw [argT_get, if_neg (by omega), Nat.sub_zero]
    cases hp : ps[t]? with
    | none => exact .any ..
    | some p =>
      have hlt : t < vs.size := by rw [← hargs.1]; exact (List.getElem?_eq_some_iff.1 hp).1
      have hv : vs[t]? = some vs[t] := Array.getElem?_eq_getElem hlt
      have hv' : (vs ++ Array.replicate (fn.ntmps - vs.size) undef)[t]? = some vs[t] := by rw [Array.getElem?_append_left hlt]; exact hv
      rw [Array.getD_eq_getD_getElem?, hv']
      exact (hargs.2 t p _ hp hv).loose
  · rintro e a' w' ⟨st, ⟨he, hr⟩, c0, rfl, hH0, hok0, _, hrep0, _, hdef, hbel0, hSS0⟩
    have key : ∀ c, c0.Le c → c.H = c0.H → c.A = c0.A → c.loc = c0.loc → HeapOk c w.heap.size → Below w.heap.size w c.w → Keep (n0 := 0) ⟨S, see S w⟩ w.heap.size w c → ∃ v, (results fn a'.tmps).run P c.w = .ok v c.w ∧ ∃ v', Ending.returned v = .returned v' ∧ Rep (see S c.w) true r v' ∧ Below w.heap.size w c.w := by
      intro c hle hHc hAc hlc hok hbel hSS
      have hH : c.H = getH st.H := hHc.trans hH0
      have hrep : ∀ t, Rep c false (getT st.tm t) (a'.tmps.getD t undef) := fun t => (hrep0 t).mono hle
      rw [← hH] at hr
      obtain ⟨us, qs, h1, h2, h3⟩ := res_ok hT hok hrep _ _ hr
      obtain ⟨qs', is, hrq, _, hl⟩ := frzA_ok hok _ _ _ h3 h2
      have hlow : ∀ id ∈ is, ∀ g, blkOf (c.loc id) = some g → ¬ S g := by
        intro id hi g hg hs
        obtain ⟨b, hb⟩ : ∃ b, c.H id = some b := (by assumption : ∀ id ∈ is, ∃ b, c.H id = some b) id hi
        have h4 := ((hok.ok id b hb).2.lt hg).1
        have h5 := (hSS.s g hs).1
        omega
      have hl' := hl S (fun b hb => (hSS.s b hb).2) hlow
      have hres := results_run h1
      have hfin : ∃ v, (results fn a'.tmps).run P c.w = .ok v c.w ∧ ∃ v', Ending.returned v = .returned v' ∧ Rep (see S c.w) true r v' ∧ Below w.heap.size w c.w := by
        refine ⟨_, hres, _, rfl, ?_, hbel⟩
        rw [hrq]
        match us, qs', hl' with
        | [], [], _ => exact .tup true [] _ rfl (fun i q v h => by simp at h)
        | [u], [q], hl => exact hl.2 0 q u rfl rfl
        | u :: v :: us, p :: q :: qs, hl => exact .tup true _ _ (by simpa using hl.1) (fun i p u h1 h2 => hl.2 i p u h1 (by simpa using h2))
        | [], _ :: _, hl => exact absurd hl.1 (by simp)
        | [_], [], hl => exact absurd hl.1 (by simp)
        | [_], _ :: _ :: _, hl => exact absurd hl.1 (by simp)
        | _ :: _ :: _, [], hl => exact absurd hl.1 (by simp)
        | _ :: _ :: _, [_], hl => exact absurd hl.1 (by simp)
      exact hfin
    have hlv := leave_marks (P := P) (fn := fn) (tmps := a'.tmps) (R := fun e w' => ∃ v', e = .returned v' ∧ Rep (see S w') true r v' ∧ Below w.heap.size w w') (n0 := 0) (S := ⟨S, see S w⟩) (Nat.le_refl _) a'.defers c0 hdef hok0 hbel0 hSS0 key
    rcases he with rfl | rfl
    · exact hlv
    · exact hlv

/-! ### Numbers are forgotten -/
inductive Blur : PV → PV → Prop where
  | same (p) : Blur p p
  | int (k n) : Blur (.int k n) (.uint k)
  | ints (T k xs) : Blur (.old T (.ints k xs)) (.old T (.rows 1 (List.map (fun _ => [PV.uint k]) xs)))
  | rows (T w) (rs rs' : List (List PV)) : rs'.length = rs.length → (∀ i j, i < rs.length → j < w → Blur ((Cells.rows w rs).get i j) ((Cells.rows w rs').get i j)) → Blur (.old T (.rows w rs)) (.old T (.rows w rs'))
theorem Blur.dm {O Z : Nat → Prop} {w : World} {p p' : PV} (h : Blur p p') : ∀ {v : Value}, Dm O Z w p v → Dm O Z w p' v := by
  induction h with
  | same p => exact fun r => r
  | int k n => intro v r; rw [r.int_eq]; exact .uint ..
  | ints T k xs =>
    intro v r
    refine r.old_conv (by simp [Cells.len]) rfl fun i j hi hj u hu => ?_
    have hi : i < xs.length := hi
    have hj : j < 1 := hj
    have : j = 0 := by omega
    subst this
    have e : (Cells.rows 1 (List.map (fun _ => [PV.uint k]) xs)).get i 0 = .uint k := by
      simp only [Cells.get, List.getD_eq_getElem?_getD]
      rw [List.getElem?_map, List.getElem?_eq_getElem hi]
      rfl
    rw [e]
    have hu : Dm O Z w (.int k (xs.getD i 0)) u := hu
    rw [hu.int_eq]
    exact .uint ..
  | rows T w rs rs' hl _ ih => intro v r; exact r.old_conv hl rfl fun i j hi hj u hu => ih i j hi hj hu
def BlurR (p p' : PV) : Prop := p = p' ∨ ∃ T cs T' cs', p = .old T cs ∧ p' = .old T' cs' ∧ Blur p p'
theorem BlurR.rep {c c' : Cx} (hle : c.Le c') {p p' : PV} (h : BlurR p p') {v : Value} (r : Rep c false p v) : Rep c' false p' v := by
  rcases h with rfl | ⟨T, cs, T', cs', rfl, rfl, hb⟩
  · exact r.mono hle
  · cases r with
    | old _ _ _ hd => exact .old _ _ _ (hle.dm (hb.dm hd))
theorem swp0_blur {k : Code} (id : Nat) {w : Nat} {row row' : List PV} {e : TypeId} (hb : getH st.H id = some ⟨.rows w [row], true, e⟩) (hr : ∀ j, BlurR (row.getD j .any) (row'.getD j .any)) (hid : id < st.n)
    (h : SWp0 P nt n0 k Q ⟨st.tm, (id, some ⟨.rows w [row'], true, e⟩) :: st.H, st.n⟩) : SWp0 P nt n0 k Q st := fun S B W0 a w' h1 h2 h3 hs => by
  refine h S B W0 a w' h1 h2 h3 ?_
  obtain ⟨c, rfl, hH, hok, hfresh, hrep, hsz, hdef, hbel, hS⟩ := hs
  have hbc : c.H id = some ⟨.rows w [row], true, e⟩ := by rw [hH]; exact hb
  have hblk := (hok.ok id _ hbc).2
  unfold BlkOk at hblk
  rw [if_pos rfl] at hblk
  obtain ⟨g, vs, Tb, hV, hB, hh, hreps⟩ := hblk
  obtain ⟨c', k1, k2, hp⟩ := post_upd (w' := c.w) (V' := c.loc id) (blk' := ⟨.rows w [row'], true, e⟩) hok hbc ⟨rfl, rfl, rfl, Nat.le_refl _, fun _ _ _ => rfl⟩ (Nat.le_refl _) rfl rfl (fun _ => rfl) (fun g hg => .inl hg) (fun c' hle hcw => by
    unfold BlkOk
    rw [if_pos rfl]
    refine ⟨g, vs, Tb, hV, hB, ?_, hreps.1, fun i j hi hj => ?_⟩
    · have hh : c.w.heap[g]? = some (.cells vs.toArray Tb (0, 0)) := hh
      show c'.w.heap[g]? = _
      rw [hcw]
      exact hh
    · have hi' : i < 1 := hi
      have : i = 0 := by omega
      subst this
      obtain ⟨v, e1, e2, e3⟩ := hreps.2 0 j (show 0 < 1 by omega) hj
      exact ⟨v, e1, (hr j).rep hle e2, e3⟩)
  refine ⟨c', k1, ?_, hp.heap, fun id' hid' hA => ?_, fun t => (hrep t).mono hp.le, hsz, hdef.to hp.only, by rw [← k1]; exact hbel.trans hp.below, hS.post hp⟩
  · rw [hp.H, hH]
    funext i
    show put (getH st.H) id _ i = _
    simp only [put_at, getH]
  · have hid' : st.n ≤ id' := hid'
    rcases (hp.A id').1 hA with h | h
    · exact hfresh id' hid' h
    · simp at h; omega
theorem swp00_skip (h : Q .normal st) : SWp0 P nt n0 .skip Q st := swp0_skip h
theorem swp00_exit {id : Nat} (h : Q (.exit id) st) : SWp0 P nt n0 (.exit id) Q st := swp0_exit h
theorem swp00_ret (h : Q .ret st) : SWp0 P nt n0 .ret Q st := swp0_ret h
theorem swp0_weak {k : Nat} {c : Code} {s' : St} (hw : Weak n0 k st s') (h : SWp0 P nt n0 c Q s') : SWp0 P nt n0 c Q st := fun S B W0 a w h1 h2 h3 hs => h S B W0 a w h1 h2 h3 (weak_ok hs hw)
end Go.Pv


namespace Go.Pv
set_option linter.unusedVariables false
set_option linter.unusedSimpArgs false
open Go
theorem w0 : IntKind.i64.wrap 0 = 0 := by decide
theorem w1 : IntKind.i64.wrap 1 = 1 := by decide
theorem w2 : IntKind.i64.wrap 2 = 2 := by decide
theorem wm1 : IntKind.i64.wrap (-1) = -1 := by decide
theorem wnext {i : Nat} (h : i < 9223372036854775807) : IntKind.i64.wrap ((i : Int) + 1) = ((i + 1 : Nat) : Int) := by rw [IntKind.wrap_i64]; omega
theorem take_next {xs ys : List Int} {i : Nat} (h1 : i < xs.length) (h2 : xs.length = ys.length) (h3 : xs.take i = ys.take i) (h4 : xs[i]?.getD 0 = ys[i]?.getD 0) : xs.take (i + 1) = ys.take (i + 1) := by
  rw [List.take_add_one, List.take_add_one, h3]
  rw [List.getElem?_eq_getElem h1, List.getElem?_eq_getElem (by omega : i < ys.length)] at h4 ⊢
  simp only [Option.getD_some] at h4
  rw [h4]
end Go.Pv
namespace Go.Pv
set_option linter.unusedVariables false
set_option linter.unusedSimpArgs false
open Go
theorem minb (n : Nat) : min n IntKind.i64.bits = min n 64 := rfl
end Go.Pv
namespace Go.Pv
set_option linter.unusedVariables false
set_option linter.unusedSimpArgs false
open Go
theorem and1b (z : Int) : (((z % 2 ^ IntKind.i64.bits).toNat &&& 1 % 2 ^ IntKind.i64.bits : Nat) : Int) = z % 2 := by
  show (((z % 2 ^ 64).toNat &&& 1 % 2 ^ 64 : Nat) : Int) = _
  rw [show (1 % 2 ^ 64 : Nat) = 1 by decide, Nat.and_one_is_mod]
  omega
end Go.Pv
namespace Go.Pv
set_option linter.unusedVariables false
set_option linter.unusedSimpArgs false
open Go
def self1 : PV → Bool
  | .bool _ | .int _ _ | .str _ | .nilf | .ro _ | .rop _ _ _ | .fn _ [] => true
  | _ => false
end Go.Pv
namespace Go.Pv
theorem ifmax (a b : Int) : (if a < b then b else a) = max a b := by omega
theorem ifmin (a b : Int) : (if b < a then b else a) = min a b := by omega
end Go.Pv
namespace Go.Pv
theorem lt_step {i : Nat} {q : Nat → Prop} (h : ∀ j < i, q j) (h2 : q i) : ∀ j < i + 1, q j := fun j hj => by
  rcases Nat.lt_succ_iff_lt_or_eq.1 hj with h3 | h3
  · exact h j h3
  · subst h3; exact h2
end Go.Pv


namespace Go.Pv
set_option linter.unusedVariables false
open Go Go.RowKit
/-! ### From a contract to a law's frame -/
/-- What the frame of a law's proof tells of a slice of integers that came in. -/
def IsRow (k : IntKind) (w : World) (a : Option Addr) (len cap : Nat) (zs : List Int) : Prop :=
  (a = none ∧ len = 0 ∧ cap = 0 ∧ zs = []) ∨
  ∃ x, a = some x ∧ len ≤ cap ∧ cap ≤ maxLen ∧ zs.length = cap ∧ (∀ i, i < zs.length → w.cell? (x.add i) = some (.int k (zs.getD i 0))) ∧ ∀ n ∈ zs, (Lit.int k n).wf = true
def none1 : Nat → Prop := fun _ => False
theorem IsRow.rep {k : IntKind} {w : World} {a : Option Addr} {len cap : Nat} {zs : List Int} (h : IsRow k w a len cap zs) (q : Bool) : Rep (see none1 w) q (.ro (.ints k (zs.take len))) (.slice a len cap) := by
  rcases h with ⟨rfl, rfl, rfl, rfl⟩ | ⟨x, rfl, hl, _, hz, hc, _⟩
  · exact .ro0 q _ _ _ rfl
  · have hlen : (Cells.ints k (zs.take len)).len = len := by simp [Cells.len]; omega
    by_cases h0 : len = 0
    · subst h0
      exact .ro0 q _ _ _ hlen
    · obtain ⟨b, off, spot⟩ := x
      have hc0 := hc 0 (by omega)
      have hspot : spot = none := by simpa [Addr.add] using World.cell?_spot hc0
      subst hspot
      have hlt : b < w.heap.size := by
        rcases Nat.lt_or_ge b w.heap.size with h | h
        · exact h
        · simp [World.cell?, Addr.add, Array.getElem?_eq_none h] at hc0
      have key := Rep.ro (c := see none1 w) q (.ints k (zs.take len)) b off cap (fun i _ => .int k (zs.getD i 0)) (by omega) (by omega) (fun h => h) hlt (fun i j hi hj => ?_) (fun i j hi hj => ?_)
      · rw [hlen] at key; exact key
      · rw [hlen] at hi
        have hj : j = 0 := by have : j < 1 := hj; omega
        subst hj
        refine ⟨?_, rfl⟩
        have := hc i (by omega)
        unfold Addr.add at this
        show w.cell? ⟨b, off + (i * 1 + 0), none⟩ = _
        rw [Nat.mul_one, Nat.add_zero]
        split at this
        · subst_vars; exact this
        · exact this
      · rw [hlen] at hi
        have : (Cells.ints k (zs.take len)).get i j = .int k (zs.getD i 0) := by
          simp only [Cells.get, List.getD_eq_getElem?_getD]
          rw [List.getElem?_take_of_lt hi]
        rw [this]
        exact .int ..
theorem IsRow.len {k : IntKind} {w : World} {a : Option Addr} {len cap : Nat} {zs : List Int} (h : IsRow k w a len cap zs) : (zs.take len).length ≤ 9223372036854775807 := by
  rcases h with ⟨rfl, rfl, rfl, rfl⟩ | ⟨x, rfl, hl, hm, hz, hc, hw⟩
  · simp
  · rw [List.length_take]
    have : maxLen ≤ 9223372036854775807 := by decide
    omega
theorem IsRow.wf {k : IntKind} {w : World} {a : Option Addr} {len cap : Nat} {zs : List Int} (h : IsRow k w a len cap zs) : ∀ n ∈ zs.take len, (Lit.int k n).wf = true := by
  intro n hn
  have hn := List.mem_of_mem_take hn
  rcases h with ⟨rfl, rfl, rfl, rfl⟩ | ⟨x, rfl, hl, _, hz, hc, hw⟩
  · cases hn
  · exact hw n hn
theorem argsOk_of {c : Cx} {q : Bool} {ps : List PV} {vs : List Value} (h : RepL c q ps vs) : ArgsOk c q ps vs.toArray := ⟨by simpa using h.1, fun i p v h1 h2 => h.2 i p v h1 (by simpa using h2)⟩
theorem law_of {P : Program} {f : FuncId} {ps : List PV} (h : PCall P f ps (.bool true)) {w : World} {vs : List Value} (ha : RepL (see none1 w) true ps vs) : Calls P f vs.toArray w fun e w' => e = .returned (.bool true) ∧ Below w.heap.size w w' := by
  refine (h.2 w vs.toArray none1 (fun b h => h.elim) (argsOk_of ha)).mono ?_
  rintro e w' ⟨v, rfl, hr, hb⟩
  cases hr
  exact ⟨rfl, hb⟩
end Go.Pv


namespace Go.Pv
set_option linter.unusedVariables false
set_option linter.unusedSimpArgs false
open Go Go.RowKit
/-! ### Arguments of any type, as the frame of a law tells of them -/
def ShF (S : TypeId → List PV → Prop) : List (TypeId × Nat) → List PV → Prop
  | [], ps => ps = []
  | p :: r, ps => ∃ a b, ps = a ++ b ∧ S p.1 a ∧ ShF S r b
/-- The cells of a value of the type. -/
def ShC (T : Ty) : Nat → TypeId → List PV → Prop
  | 0, _, _ => False
  | n + 1, t, ps => match T t with
    | none => False
    | some ti => match ti.k with
      | .int k => ∃ z, ps = [.int k z] ∧ (Lit.int k z).wf = true
      | .bool => ∃ b, ps = [.bool b]
      | .str => ∃ s : ByteArray, ps = [.str s] ∧ s.size ≤ maxLen
      | .slice e => ∃ cs, ps = [.ro cs] ∧ cs.len ≤ maxLen ∧ (match T e with
        | none => False
        | some te => match te.k with
          | .int k => ∃ xs, cs = .ints k xs ∧ ∀ x ∈ xs, (Lit.int k x).wf = true
          | _ => ∃ rs, cs = .rows te.sz rs ∧ ∀ r ∈ rs, ShC T n e r)
      | .struct fs => ShF (ShC T n) fs ps
      | .arr m e => match T e with
        | none => False
        | some te => ShF (ShC T n) ((List.range m).map fun i => (e, i * te.sz)) ps
      | .other => False
def contig (T : Ty) (sz : Nat) : Nat → List (TypeId × Nat) → Bool
  | o, [] => o == sz
  | o, p :: r => match T p.1 with
    | some tf => p.2 == o && contig T sz (o + tf.sz) r
    | none => false
def okT (T : Ty) : Nat → TypeId → Bool
  | 0, _ => false
  | n + 1, t => match T t with
    | none => false
    | some ti => match ti.k with
      | .int _ | .bool | .str => true
      | .slice e => (match T e with | none => false | some te => decide (0 < te.sz)) && okT T n e
      | .struct fs => contig T ti.sz 0 fs && fs.all fun p => okT T n p.1
      | .arr m e => (match T e with | none => false | some te => contig T ti.sz 0 ((List.range m).map fun i => (e, i * te.sz))) && okT T n e
      | .other => false

section
variable {P : Program} {T : Ty} {H : Type} {enc : TypeId × Value → H} {w : World} {sp : Nat → Bool} {held : Bool}

theorem cellsOf_sz (hT : TyOk P T) {t : TypeId} {ti : TI} (ht : T t = some ti) : P.cellsOf t = ti.sz := by
  obtain ⟨i, hi, hs, _⟩ := hT.info t ti ht
  simp [Program.cellsOf, hi, hs]

def Got (w : World) (S : List PV → Prop) (cs : List Value) : Prop := ∃ ps, S ps ∧ RepL (see none1 w) true ps cs ∧ ps.all PV.one = true

theorem shF_got (hT : TyOk P T) {S : TypeId → List PV → Prop} {sz : Nat} {cs : List Value} (hl : cs.length = sz) : ∀ (fs : List (TypeId × Nat)) (o : Nat), contig T sz o fs = true → o ≤ sz →
    (∀ p ∈ fs, ∀ tf, T p.1 = some tf → Got w (S p.1) ((cs.drop p.2).take tf.sz)) → Got w (ShF S fs) (cs.drop o)
  | [], o, hc, ho, _ => by
    simp only [contig, beq_iff_eq] at hc
    have : cs.drop o = [] := List.drop_eq_nil_of_le (by omega)
    rw [this]
    exact ⟨[], rfl, .nil, rfl⟩
  | p :: r, o, hc, ho, h => by
    simp only [contig] at hc
    cases ht : T p.1 with
    | none => rw [ht] at hc; cases hc
    | some tf =>
      rw [ht] at hc
      simp only [Bool.and_eq_true, beq_iff_eq] at hc
      obtain ⟨a, h1, h2, h3⟩ := h p (by simp) tf ht
      rw [hc.1] at h2
      have ho' : o + tf.sz ≤ sz := by
        have : ∀ (fs : List (TypeId × Nat)) (o : Nat), contig T sz o fs = true → o ≤ sz := by
          intro fs
          induction fs with
          | nil => intro o h; simp only [contig, beq_iff_eq] at h; omega
          | cons q fs ih =>
            intro o h
            simp only [contig] at h
            split at h
            · simp only [Bool.and_eq_true] at h
              have := ih _ h.2
              omega
            · cases h
        exact this r _ hc.2
      obtain ⟨b, k1, k2, k3⟩ := shF_got hT hl r (o + tf.sz) hc.2 ho' fun q hq => h q (List.mem_cons_of_mem _ hq)
      refine ⟨a ++ b, ⟨a, b, rfl, h1, k1⟩, ?_, by rw [List.all_append, h3, k3]; rfl⟩
      have := h2.app k2
      rwa [← List.drop_drop, List.take_append_drop] at this

theorem ro_mk {c : Cx} {q : Bool} {cs : Cells} {b off cp : Nat} (hat : At c true cs b off) (hb : ¬ c.ow b) (hlt : b < c.w.heap.size) (hcp : cs.len ≤ cp) (h0 : 0 < cs.len) : Rep c q (.ro cs) (.slice (some ⟨b, off, none⟩) cs.len cp) := by
  have := ro_of_at c hat hb hlt q 0 cs.len (by omega) hcp h0
  have e : cs.sub 0 cs.len = cs := by cases cs <;> simp [Cells.sub, Cells.len]
  rwa [e, Nat.zero_mul, Nat.add_zero] at this

theorem open_cells (hT : TyOk P T) : ∀ (n : Nat) (t : TypeId) (fuel : Nat) (cs : List Value) (x : DataW H × List MemPlace), okT T n t = true → DataW.trod enc P w 0 sp held fuel t cs = some x → Got w (ShC T n t) cs
  | 0, _, _, _, _, h, _ => by cases h
  | n + 1, t, fuel, cs, x, h, hx => by
    have ih := open_cells hT n
    unfold okT at h
    cases ht : T t with
    | none => rw [ht] at h; cases h
    | some ti =>
      rw [ht] at h
      simp only at h
      unfold Got ShC
      rw [ht]
      dsimp only
      cases hk : ti.k with
      | int k =>
        obtain ⟨z, rfl, _, hw⟩ := DataW.trod_int (hT.int t ti k ht hk).1 hx
        exact ⟨[.int k z], ⟨z, rfl, hw⟩, .cons (.int ..) .nil, rfl⟩
      | bool =>
        obtain ⟨b, rfl, _⟩ := DataW.trod_bool (hT.bool t ti ht hk).1 hx
        exact ⟨[.bool b], ⟨b, rfl⟩, .cons (.bool ..) .nil, rfl⟩
      | str =>
        obtain ⟨s, rfl, _, hs⟩ := DataW.trod_string (hT.str t ti ht hk).1 hx
        exact ⟨[.str s], ⟨s, rfl, hs⟩, .cons (.str ..) .nil, rfl⟩
      | other => rw [hk] at h; cases h
      | struct fs =>
        rw [hk] at h
        simp only [Bool.and_eq_true] at h
        obtain ⟨F, hF, hm, _⟩ := hT.struct t ti fs ht hk
        obtain ⟨xs, m, _, _, hl, hxl, hf⟩ := DataW.trod_struct hF hx
        rw [cellsOf_sz hT ht] at hl
        have := shF_got (w := w) hT (S := ShC T n) hl fs 0 h.1 (Nat.zero_le _) fun p hp tf htf => by
          rw [← hm] at hp
          obtain ⟨f, hfm, rfl⟩ := List.mem_map.1 hp
          obtain ⟨i, hi, hif⟩ := List.getElem_of_mem hfm
          have hi2 : F[i]? = some f := by rw [← Array.getElem?_toList, List.getElem?_eq_getElem hi, hif]
          have h2 := hf i f hi2
          have hix : i < xs.length := by rw [hxl]; simpa using hi
          rw [List.getElem?_eq_getElem hix, cellsOf_sz hT htf] at h2
          exact ih f.type m _ _ (List.all_eq_true.1 h.2 _ (by rw [← hm]; exact List.mem_map.2 ⟨f, hfm, rfl⟩)) h2
        exact this
      | arr m e =>
        rw [hk] at h
        simp only [Bool.and_eq_true] at h
        cases hte : T e with
        | none => rw [hte] at h; exact absurd h.1 (by simp)
        | some te =>
          rw [hte] at h
          obtain ⟨xs, m', _, _, hl, hxl, hf⟩ := DataW.trod_array (hT.arr t ti m e ht hk) hx
          rw [cellsOf_sz hT ht] at hl
          have := shF_got (w := w) hT (S := ShC T n) hl _ 0 h.1 (Nat.zero_le _) fun p hp tf htf => by
            obtain ⟨i, hi, rfl⟩ := List.mem_map.1 hp
            simp only at htf ⊢
            rw [hte] at htf
            cases htf
            have hi' : i < m := by simpa using hi
            have h2 := hf i hi'
            rw [List.getElem?_eq_getElem (by omega), cellsOf_sz hT hte] at h2
            exact ih e m' _ _ h.2 h2
          simp only [hte]
          exact this
      | slice e =>
        rw [hk] at h
        simp only [Bool.and_eq_true] at h
        cases hte : T e with
        | none => rw [hte] at h; exact absurd h.1 (by simp)
        | some te =>
          rw [hte] at h
          have hsz : 0 < te.sz := by simpa using h.1
          simp only [hte]
          rcases DataW.trod_slice (hT.slice t ti e ht hk).1 hx with ⟨rfl, _⟩ | ⟨a, len, cap, elems, rest, m, _, rfl, _, _, hlc, hm, hel, hE, _, _⟩
          · have hz : ∀ cs : Cells, cs.len = 0 → RepL (see none1 w) true [.ro cs] [.slice none 0 0] := fun cs h0 => .cons (.ro0 _ _ _ _ h0) .nil
            split
            · rename_i k _
              exact ⟨_, ⟨.ints k [], rfl, Nat.zero_le _, [], rfl, fun x hx => by simp at hx⟩, hz _ rfl, rfl⟩
            · exact ⟨_, ⟨.rows te.sz [], rfl, Nat.zero_le _, [], rfl, fun x hx => by simp at hx⟩, hz _ rfl, rfl⟩
          · have each : ∀ i, ∃ ps csi, i < len → ShC T n e ps ∧ RepL (see none1 w) true ps csi ∧ ps.all PV.one = true ∧ csi.length = te.sz ∧ ∀ j, j < te.sz → w.cell? ((a.add (i * te.sz)).add j) = csi[j]? := fun i => by
              by_cases hi : i < len
              · have h2 := hE i hi
                rw [List.getElem?_eq_getElem (by omega), cellsOf_sz hT hte, Option.bind_eq_some_iff] at h2
                obtain ⟨csi, h3, h4⟩ := h2
                obtain ⟨_, h5, h6⟩ := World.cells?_some h3
                obtain ⟨ps, k1, k2, k3⟩ := ih e m csi _ h.2 h4
                exact ⟨ps, csi, fun _ => ⟨k1, k2, k3, h5, h6⟩⟩
              · exact ⟨[], [], fun h => absurd h hi⟩
            let g : Nat → List PV := fun i => Classical.choose (each i)
            have hg : ∀ i, i < len → ShC T n e (g i) ∧ ∃ csi, RepL (see none1 w) true (g i) csi ∧ (g i).all PV.one = true ∧ csi.length = te.sz ∧ ∀ j, j < te.sz → w.cell? ((a.add (i * te.sz)).add j) = csi[j]? := fun i hi => by
              obtain ⟨csi, hc⟩ := Classical.choose_spec (each i)
              obtain ⟨h1, h2⟩ := hc hi
              exact ⟨h1, csi, h2⟩
            have hcell : ∀ i j, i < len → j < te.sz → ∃ v, w.cell? ((a.add (i * te.sz)).add j) = some v ∧ Rep (see none1 w) true ((g i).getD j .any) v ∧ v.oneCell' = true := fun i j hi hj => by
              obtain ⟨_, csi, h1, h2, h3, h4⟩ := hg i hi
              have hlt : j < csi.length := by omega
              have hlg : j < (g i).length := by have := h1.1; omega
              have hr := h1.2 j _ _ (List.getElem?_eq_getElem hlg) (List.getElem?_eq_getElem hlt)
              refine ⟨csi[j], by rw [h4 j hj, List.getElem?_eq_getElem hlt], by rw [List.getD_eq_getElem?_getD, List.getElem?_eq_getElem hlg]; exact hr, one_rep (List.all_eq_true.1 h2 _ (List.getElem_mem hlg)) hr⟩
            have made : ∀ cs : Cells, cs.len = len → cs.w = te.sz → (∀ i j, i < len → j < te.sz → cs.get i j = (g i).getD j .any) → RepL (see none1 w) true [.ro cs] [.slice (some a) len cap] := fun cs hcl hcw hcg => by
              refine .cons ?_ .nil
              by_cases h0 : len = 0
              · subst h0
                exact .ro0 _ _ _ _ hcl
              · obtain ⟨b, off, spot⟩ := a
                obtain ⟨v0, hv0, _⟩ := hcell 0 0 (by omega) hsz
                have hspot : spot = none := by
                  have := World.cell?_spot hv0
                  rw [Nat.zero_mul] at this
                  cases spot with
                  | none => rfl
                  | some s => simp [Addr.add] at this
                subst hspot
                have hadd : ∀ i j, (Addr.add (Addr.add ⟨b, off, none⟩ (i * te.sz)) j) = ⟨b, off + (i * te.sz + j), none⟩ := fun i j => by rw [Addr.add_lit, Addr.add_lit, Nat.add_assoc]
                have hlt : b < w.heap.size := by
                  rcases Nat.lt_or_ge b w.heap.size with h | h
                  · exact h
                  · rw [hadd] at hv0
                    simp [World.cell?, Array.getElem?_eq_none h] at hv0
                have := ro_mk (c := see none1 w) (q := true) (cs := cs) (b := b) (off := off) (cp := cap) (fun i j hi hj => ?_) (fun h => h) hlt (by omega) (by omega)
                · rwa [hcl] at this
                · rw [hcl] at hi
                  rw [hcw] at hj
                  obtain ⟨v, h1, h2, h3⟩ := hcell i j hi hj
                  rw [hadd] at h1
                  exact ⟨v, by rw [hcw]; exact h1, by rw [hcg i j hi hj]; exact h2, h3⟩
            split
            · rename_i k hek
              have hz : ∀ i, i < len → ∃ z, g i = [.int k z] ∧ (Lit.int k z).wf = true := fun i hi => by
                have h1 := (hg i hi).1
                cases n with
                | zero => exact h1.elim
                | succ n =>
                  unfold ShC at h1
                  rw [hte] at h1
                  simp only [hek] at h1
                  exact h1
              let zf : Nat → Int := fun i => match g i with | [.int _ z] => z | _ => 0
              have hzf : ∀ i, i < len → g i = [.int k (zf i)] ∧ (Lit.int k (zf i)).wf = true := fun i hi => by
                obtain ⟨z, h1, h2⟩ := hz i hi
                have : zf i = z := by show (match g i with | [.int _ z] => z | _ => 0) = z; rw [h1]
                rw [this]
                exact ⟨h1, h2⟩
              refine ⟨_, ⟨.ints k ((List.range len).map zf), rfl, by simp [Cells.len]; omega, _, rfl, fun x hx => ?_⟩, made _ (by simp [Cells.len]) (hT.int e te k hte hek).2.symm fun i j hi hj => ?_, rfl⟩
              · obtain ⟨i, hi, rfl⟩ := List.mem_map.1 hx
                exact (hzf i (by simpa using hi)).2
              · have : j = 0 := by have := (hT.int e te k hte hek).2; omega
                subst this
                rw [(hzf i hi).1]
                simp [Cells.get, hi]
            · refine ⟨_, ⟨.rows te.sz ((List.range len).map g), rfl, by simp [Cells.len]; omega, _, rfl, fun r hr => ?_⟩, made _ (by simp [Cells.len]) rfl fun i j hi hj => ?_, rfl⟩
              · obtain ⟨i, hi, rfl⟩ := List.mem_map.1 hr
                exact (hg i (by simpa using hi)).1
              · simp [Cells.get, hi]

theorem open_one (hT : TyOk P T) {n : Nat} {t : TypeId} {ti : TI} (ht : T t = some ti) (hk : ti.k.agg = false) (hok : okT T n t = true) {r : Reach} {b0 : Nat} {v : Value} {d : DataW H} {ps : List MemPlace} (hval : Value.okWide P w r b0 t v) (hd : DataW.Trod enc P w 0 sp held t v d ps) :
    ∃ p, ShC T n t [p] ∧ Rep (see none1 w) true p v := by
  obtain ⟨fuel, hf⟩ := hd
  obtain ⟨qs, h1, h2, _⟩ := open_cells hT n t fuel _ _ hok hf
  have hone : v.cells.toList.length = 1 → v.cells = #[v] → ∃ p, ShC T n t [p] ∧ Rep (see none1 w) true p v := fun hl hc => by
    rw [hc] at h2
    match qs, h2.1 with
    | [p], _ => exact ⟨p, h1, h2.2 0 p v rfl rfl⟩
  cases v with
  | agg cs =>
    exfalso
    cases n with
    | zero => cases hok
    | succ n =>
      unfold ShC at h1
      rw [ht] at h1
      cases hk' : ti.k with
      | int k => unfold Value.okWide Cell.okWide Cell.ok at hval; rw [(hT.int t ti k ht hk').1] at hval; simp at hval
      | bool => unfold Value.okWide Cell.okWide Cell.ok at hval; rw [(hT.bool t ti ht hk').1] at hval; simp at hval
      | str => unfold Value.okWide Cell.okWide Cell.ok at hval; rw [(hT.str t ti ht hk').1] at hval; simp at hval
      | slice e => unfold Value.okWide Cell.okWide Cell.ok at hval; rw [(hT.slice t ti e ht hk').1] at hval; simp at hval
      | struct fs => rw [hk'] at hk; cases hk
      | arr m e => rw [hk'] at hk; cases hk
      | other => simp only [hk'] at h1
  | _ => exact hone rfl rfl
theorem open_agg (hT : TyOk P T) {n : Nat} {t : TypeId} {ti : TI} (ht : T t = some ti) (hk : ti.k.agg = true) (hok : okT T n t = true) {r : Reach} {b0 : Nat} {v : Value} {d : DataW H} {ps : List MemPlace} (hval : Value.okWide P w r b0 t v) (hd : DataW.Trod enc P w 0 sp held t v d ps) :
    ∃ qs, ShC T n t qs ∧ Rep (see none1 w) true (.agg qs) v := by
  obtain ⟨fuel, hf⟩ := hd
  obtain ⟨qs, h1, h2, _⟩ := open_cells hT n t fuel _ _ hok hf
  have : ∃ cs, v = .agg cs := by
    unfold Value.okWide at hval
    cases hk' : ti.k with
    | struct fs =>
      obtain ⟨F, hF, _⟩ := hT.struct t ti fs ht hk'
      rw [hF] at hval
      obtain ⟨cs, h, _⟩ := hval
      exact ⟨cs, h⟩
    | arr m e =>
      rw [hT.arr t ti m e ht hk'] at hval
      obtain ⟨cs, h, _⟩ := hval
      exact ⟨cs, h⟩
    | _ => rw [hk'] at hk; cases hk
  obtain ⟨cs, rfl⟩ := this
  exact ⟨qs, h1, .agg _ _ _ (by simpa [Value.cells] using h2.1) fun i p u hp hu => h2.2 i p u hp (by simpa [Value.cells] using hu)⟩
end
end Go.Pv

