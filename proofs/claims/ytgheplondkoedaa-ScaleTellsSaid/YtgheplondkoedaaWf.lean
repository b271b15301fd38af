import Derived.Test.YtgheplondkoedaaPgc
import Derived.LoopN
import Derived.ScopeJumps
import Derived.RangeFuncRecord
import Derived.RangeFuncCalls
import Derived.TacticsIn
import Derived.OrdersIn
import Derived.IntWalk
import Derived.OpenShut
import Derived.ChangeArms
import Derived.ChangeSlices
namespace Go.Pv
set_option linter.unusedVariables false
set_option linter.unusedSimpArgs false
open Go Go.RowKit
variable {P : Program} {T : Ty} {nt n0 : Nat}

theorem step1_det {o : Oper} {tm : Nat → PV} {H : Nat → Option Blk} {n : Nat} {b : Bool} : Det2 (step1 P T o tm H n b) := fun K h => by
 unfold step1 at h ⊢
 split at h
 ·split at h
  ·exact ⟨_, _, ⟨h.1, h.2.1, h.2.2.1, rfl, rfl⟩, h.2.2.2⟩
  ·obtain ⟨x, y, h1, h2⟩ := opv_det K h.2
   exact ⟨x, y, ⟨h.1, h1⟩, h2⟩
 ·obtain ⟨x, y, h1, h2⟩ := opv_det K h.2
  exact ⟨x, y, ⟨h.1, h1⟩, h2⟩

/-- What each operation reads and turns (the newest first). -/
abbrev Fp := List (List Nat × List Nat)
/-- A region in the order of its text. -/
def runD (P : Program) (T : Ty) (nt : Nat) (all : List Oper) : List Oper → Nat → List (Nat × PV) → List (Nat × Option Blk) → Fp → (Fp → List (Nat × PV) → List (Nat × Option Blk) → Nat → Prop) → Prop
 | [], n, tm, H, fp, K => K fp tm H n
 | o :: os, n, tm, H, fp, K => gd all o (getT tm) fun b => match o.guard with
  | none => step1 P T o (getT tm) (getH H) n true fun pv eff => runD P T nt all os (n + 8) (putT nt tm o.dst pv) (onL eff H) ((rdO T (evu T (getT tm)) o.op, eff.map (·.1)) :: fp) K
  | some _ => match sug T o (getT tm) (getH H) with
   | some v => (b = true → step1 P T o (getT tm) (getH H) n b fun pv eff => pv = v ∧ eff = []) ∧ runD P T nt all os (n + 8) (putT nt tm o.dst (.opt b v)) H ((rdO T (evu T (getT tm)) o.op, []) :: fp) K
   | none => (∃ v, (b = true → step1 P T o (getT tm) (getH H) n b fun pv eff => pv = v ∧ eff = []) ∧ runD P T nt all os (n + 8) (putT nt tm o.dst (.opt b v)) H ((rdO T (evu T (getT tm)) o.op, []) :: fp) K) ∨
    (∃ v E, (b = true → step1 P T o (getT tm) (getH H) n b fun pv eff => pv = v ∧ eff = E) ∧ (b = false → ∀ p ∈ E, getH H p.1 = p.2) ∧ (∀ p ∈ E, p.1 ∈ rdO T (evu T (getT tm)) o.op) ∧ runD P T nt all os (n + 8) (putT nt tm o.dst (.opt b v)) (onL E H) ((rdO T (evu T (getT tm)) o.op, E.map (·.1)) :: fp) K)

def Rec.fp (r : Rec) : List Nat × List Nat := (r.rd, r.eff.map (·.1))
/-- One behind the other, with what each did. -/
def Chain (P : Program) (T : Ty) (nt : Nat) (all : List Oper) (Qf : (Nat → PV) → (Nat → Option Blk) → Prop) : List Oper → Nat → List Rec → (Nat → PV) → (Nat → Option Blk) → Prop
 | [], _, rs, tm, H => rs = [] ∧ Qf tm H
 | o :: os, n, rs, tm, H => ∃ r rs', rs = r :: rs' ∧ StepR P T all o n r tm H ∧ Chain P T nt all Qf os (n + 8) rs' (putF nt tm o.dst r.pv) (r.eff.on H)

theorem gd_get {ops : List Oper} {o : Oper} {tm : Nat → PV} {K : Bool → Prop} (h : gd ops o tm K) : ∃ b, K b ∧ (gd ops o tm fun b' => b' = b) ∧ (o.guard = none → b = true) := by
 unfold gd at h ⊢
 split at h
 ·exact ⟨true, h, rfl, fun _ => rfl⟩
 ·rename_i hg
  split at h
  ·split at h
   ·exact ⟨_, h, rfl, fun h => by rw [hg] at h; cases h⟩
   ·exact ⟨_, h, rfl, fun h => by rw [hg] at h; cases h⟩
   ·exact h.elim
  ·exact h.elim

theorem runD_chain {all : List Oper} {K : Fp → List (Nat × PV) → List (Nat × Option Blk) → Nat → Prop} : ∀ (os : List Oper) (n : Nat) (tm : List (Nat × PV)) (H : List (Nat × Option Blk)) (fp : Fp), runD P T nt all os n tm H fp K →
  ∃ rs tm' H', rs.length = os.length ∧ K ((rs.map Rec.fp).reverse ++ fp) tm' H' (n + 8 * os.length) ∧ Chain P T nt all (fun t h => t = getT tm' ∧ h = getH H') os n rs (getT tm) (getH H)
 | [], n, tm, H, fp, h => ⟨[], tm, H, rfl, h, rfl, rfl, rfl⟩
 | o :: os, n, tm, H, fp, h => by
  obtain ⟨b, h1, hg, hb⟩ := gd_get h
  have joined : ∀ v, (b = true → step1 P T o (getT tm) (getH H) n b fun pv eff => pv = v ∧ eff = []) → runD P T nt all os (n + 8) (putT nt tm o.dst (.opt b v)) H ((rdO T (evu T (getT tm)) o.op, []) :: fp) K →
    ∃ rs tm' H', rs.length = (o :: os).length ∧ K ((rs.map Rec.fp).reverse ++ fp) tm' H' (n + 8 * (o :: os).length) ∧ Chain P T nt all (fun t h => t = getT tm' ∧ h = getH H') (o :: os) n rs (getT tm) (getH H) := fun v h2 h3 => by
   obtain ⟨rs, tm', H', e1, e2, e3⟩ := runD_chain os _ _ _ _ h3
   refine ⟨⟨b, v, .opt b v, [], rdO T (evu T (getT tm)) o.op⟩ :: rs, tm', H', by simp [e1], ?_, _, rs, rfl, ⟨hg, fun hb' => ?_, (fun _ p hp => by cases hp), .inr rfl, rfl⟩, ?_⟩
   ·rw [List.map_cons, List.reverse_cons, List.append_assoc, List.length_cons, show n + 8 * (os.length + 1) = n + 8 + 8 * os.length by omega]
    exact e2
   ·have hb'' : b = true := hb'
    have := h2 hb''
    rw [hb''] at this
    exact this
   ·rw [getT_putT] at e3
    exact e3
  split at h1
  ·rename_i hgn
   obtain rfl := hb hgn
   obtain ⟨pv, eff, h2, h3⟩ := step1_det _ h1
   obtain ⟨rs, tm', H', e1, e2, e3⟩ := runD_chain os _ _ _ _ h3
   refine ⟨⟨true, pv, pv, eff, rdO T (evu T (getT tm)) o.op⟩ :: rs, tm', H', by simp [e1], ?_, _, rs, rfl, ⟨hg, fun _ => h2, (fun h => by cases h), .inl ⟨rfl, rfl⟩, rfl⟩, ?_⟩
   ·rw [List.map_cons, List.reverse_cons, List.append_assoc, List.length_cons, show n + 8 * (os.length + 1) = n + 8 + 8 * os.length by omega]
    exact e2
   ·rw [getT_putT, getH_on] at e3
    exact e3
  ·split at h1
   ·exact joined _ h1.1 h1.2
   ·rcases h1 with ⟨v, h2, h3⟩ | ⟨v, E, h2, h2', h2'', h3⟩
    ·exact joined v h2 h3
    ·obtain ⟨rs, tm', H', e1, e2, e3⟩ := runD_chain os _ _ _ _ h3
     refine ⟨⟨b, v, .opt b v, E, rdO T (evu T (getT tm)) o.op⟩ :: rs, tm', H', by simp [e1], ?_, _, rs, rfl, ⟨hg, fun hb' => ?_, fun hb' p hp => ⟨h2'' p hp, h2' hb' p hp⟩, .inr rfl, rfl⟩, ?_⟩
     ·rw [List.map_cons, List.reverse_cons, List.append_assoc, List.length_cons, show n + 8 * (os.length + 1) = n + 8 + 8 * os.length by omega]
      exact e2
     ·have hb'' : b = true := hb'
      have := h2 hb''
      rw [hb''] at this
      exact this
     ·rw [getT_putT, getH_on] at e3
      exact e3

/-! ### The checks -/
/-- What comes before an operation, as bits, out of those of the operations ahead of it. -/
def maskOf (ms : Nat → Nat) : List Edge → Nat
 | [] => 0
 | e :: es => if Region.binds .any e then (2 ^ e.on ||| ms e.on) ||| maskOf ms es else maskOf ms es
theorem maskOf_bit {ms : Nat → Nat} {i : Nat} : ∀ {es : List Edge}, (maskOf ms es).testBit i = true → ∃ e ∈ es, Region.binds .any e = true ∧ (e.on = i ∨ (ms e.on).testBit i = true)
 | [], h => by simp [maskOf] at h
 | e :: es, h => by
  unfold maskOf at h
  by_cases hb : Region.binds .any e = true
  ·rw [if_pos hb, Nat.testBit_or, Nat.testBit_or, Bool.or_eq_true, Bool.or_eq_true] at h
   rcases h with (h | h) | h
   ·rw [Nat.testBit_two_pow] at h
    exact ⟨e, by simp, hb, .inl (by simpa using h)⟩
   ·exact ⟨e, by simp, hb, .inr h⟩
   ·obtain ⟨e', h1, h2⟩ := maskOf_bit h
    exact ⟨e', List.mem_cons_of_mem _ h1, h2⟩
  ·rw [if_neg hb] at h
   obtain ⟨e', h1, h2⟩ := maskOf_bit h
   exact ⟨e', List.mem_cons_of_mem _ h1, h2⟩
def masks : List Oper → List Nat → List Nat
 | [], acc => acc
 | o :: os, acc => masks os (acc ++ [maskOf (fun i => acc.getD i 0) o.after.toList])
def chkM (ms : List Nat) : List Oper → Nat → Bool
 | [], _ => true
 | o :: os, j => (ms.getD j 0 == maskOf (fun i => ms.getD i 0) o.after.toList) && (o.after.toList.all fun e => !Region.binds .any e || decide (e.on < j)) && chkM ms os (j + 1)
/-- Slots: those that are not ordered do not meet. -/
def chkT1 (all : List Oper) (ms : List Nat) (i : Nat) (oi : Oper) : List Oper → Nat → Bool
 | [], _ => true
 | oj :: os, j => ((ms.getD j 0).testBit i || (match oi.dst with | some d => !(looks all oj).contains d && !(oj.dst == some d) | none => true) && (match oj.dst with | some d => !(looks all oi).contains d | none => true)) && chkT1 all ms i oi os (j + 1)
def chkT (all : List Oper) (ms : List Nat) : List Oper → Nat → Bool
 | [], _ => true
 | o :: os, i => chkT1 all ms i o os (i + 1) && chkT all ms os (i + 1)
def disj (a b : List Nat) : Bool := a.all fun x => !b.contains x
def chkH1 (ms : List Nat) (i : Nat) (fi : List Nat × List Nat) : Fp → Nat → Bool
 | [], _ => true
 | fj :: fs, j => ((ms.getD j 0).testBit i || disj fi.2 fj.1 && disj fi.2 fj.2 && disj fj.2 fi.1) && chkH1 ms i fi fs (j + 1)
def chkH (ms : List Nat) : Fp → Nat → Bool
 | [], _ => true
 | f :: fs, i => chkH1 ms i f fs (i + 1) && chkH ms fs (i + 1)
def chkE (ms : List Nat) (n0 N : Nat) : Fp → Nat → Bool
 | [], _ => true
 | f :: fs, i => (f.2.all fun x => decide (x < n0) || (decide (n0 + 8 * i ≤ x) && decide (x < n0 + 8 * i + 8)) || (decide (x < n0 + 8 * N) && (ms.getD i 0).testBit ((x - n0) / 8))) && chkE ms n0 N fs (i + 1)

theorem chkM_at {ms : List Nat} : ∀ {os : List Oper} {k : Nat}, chkM ms os k = true → ∀ j o, os[j]? = some o → ms.getD (k + j) 0 = maskOf (fun i => ms.getD i 0) o.after.toList ∧ ∀ e ∈ o.after, Region.binds .any e = true → e.on < k + j
 | [], k, _, j, o, h => by simp at h
 | p :: os, k, hc, j, o, h => by
  simp only [chkM, Bool.and_eq_true, beq_iff_eq, List.all_eq_true] at hc
  obtain ⟨⟨h1, h2⟩, h3⟩ := hc
  cases j with
  | zero =>
   simp at h
   subst h
   refine ⟨h1, fun e he hb => ?_⟩
   have := h2 e (by simpa using he)
   simpa [hb] using this
  | succ j =>
   have := chkM_at h3 j o (by simpa using h)
   rw [show k + (j + 1) = k + 1 + j by omega]
   exact this
theorem clo_of {l : List Oper} {ms : List Nat} (h : chkM ms l 0 = true) : Clo l.toArray fun j i => (ms.getD j 0).testBit i := by
 refine ⟨fun j o i ho hc => ?_, fun j o ho e he hb => ?_⟩
 ·have := (chkM_at h j o (by simpa using ho)).1
  rw [Nat.zero_add] at this
  rw [this] at hc
  obtain ⟨e, h1, h2⟩ := maskOf_bit hc
  exact ⟨e, by simpa using h1, h2⟩
 ·have := (chkM_at h j o (by simpa using ho)).2 e he hb
  omega

theorem chkT1_at {all : List Oper} {ms : List Nat} {i : Nat} {oi : Oper} : ∀ {os : List Oper} {k : Nat}, chkT1 all ms i oi os k = true → ∀ j o, os[j]? = some o → (ms.getD (k + j) 0).testBit i = false →
  (∀ d, oi.dst = some d → d ∉ looks all o) ∧ (∀ d, oi.dst = some d → o.dst ≠ some d) ∧ (∀ d, o.dst = some d → d ∉ looks all oi)
 | [], k, _, j, o, h, _ => by simp at h
 | p :: os, k, hc, j, o, h, hm => by
  simp only [chkT1, Bool.and_eq_true] at hc
  obtain ⟨h1, h3⟩ := hc
  cases j with
  | zero =>
   simp at h
   subst h
   rw [Nat.add_zero] at hm
   rw [hm, Bool.false_or, Bool.and_eq_true] at h1
   obtain ⟨h1, h2⟩ := h1
   refine ⟨fun d hd => ?_, fun d hd => ?_, fun d hd => ?_⟩
   ·rw [hd] at h1; simp at h1; exact h1.1
   ·rw [hd] at h1; simp at h1; exact h1.2
   ·rw [hd] at h2; simpa using h2
  | succ j => exact chkT1_at h3 j o (by simpa using h) (by rw [show k + 1 + j = k + (j + 1) by omega]; exact hm)
theorem chkT_at {all : List Oper} {ms : List Nat} : ∀ {os : List Oper} {k : Nat}, chkT all ms os k = true → ∀ i oi j oj, os[i]? = some oi → os[j]? = some oj → i < j → (ms.getD (k + j) 0).testBit (k + i) = false →
  (∀ d, oi.dst = some d → d ∉ looks all oj) ∧ (∀ d, oi.dst = some d → oj.dst ≠ some d) ∧ (∀ d, oj.dst = some d → d ∉ looks all oi)
 | [], k, _, i, oi, j, oj, h, _, _, _ => by simp at h
 | p :: os, k, hc, i, oi, j, oj, hi, hj, hij, hm => by
  simp only [chkT, Bool.and_eq_true] at hc
  obtain ⟨j, rfl⟩ : ∃ j', j = j' + 1 := ⟨j - 1, by omega⟩
  cases i with
  | zero =>
   simp at hi
   subst hi
   exact chkT1_at hc.1 j oj (by simpa using hj) (by rw [show k + 1 + j = k + (j + 1) by omega]; exact hm)
  | succ i => exact chkT_at hc.2 i oi j oj (by simpa using hi) (by simpa using hj) (by omega) (by rw [show k + 1 + j = k + (j + 1) by omega, show k + 1 + i = k + (i + 1) by omega]; exact hm)
theorem disj_at {a b : List Nat} (h : disj a b = true) : ∀ x ∈ a, x ∉ b := fun x hx hb => by
 have := List.all_eq_true.1 h x hx
 simp [hb] at this
theorem chkH1_at {ms : List Nat} {i : Nat} {fi : List Nat × List Nat} : ∀ {fs : Fp} {k : Nat}, chkH1 ms i fi fs k = true → ∀ j f, fs[j]? = some f → (ms.getD (k + j) 0).testBit i = false → disj fi.2 f.1 = true ∧ disj fi.2 f.2 = true ∧ disj f.2 fi.1 = true
 | [], k, _, j, o, h, _ => by simp at h
 | p :: os, k, hc, j, o, h, hm => by
  simp only [chkH1, Bool.and_eq_true] at hc
  obtain ⟨h1, h3⟩ := hc
  cases j with
  | zero =>
   simp at h
   subst h
   rw [Nat.add_zero] at hm
   rw [hm, Bool.false_or, Bool.and_eq_true, Bool.and_eq_true] at h1
   exact ⟨h1.1.1, h1.1.2, h1.2⟩
  | succ j => exact chkH1_at h3 j o (by simpa using h) (by rw [show k + 1 + j = k + (j + 1) by omega]; exact hm)
theorem chkH_at {ms : List Nat} : ∀ {fs : Fp} {k : Nat}, chkH ms fs k = true → ∀ i fi j fj, fs[i]? = some fi → fs[j]? = some fj → i < j → (ms.getD (k + j) 0).testBit (k + i) = false → disj fi.2 fj.1 = true ∧ disj fi.2 fj.2 = true ∧ disj fj.2 fi.1 = true
 | [], k, _, i, oi, j, oj, h, _, _, _ => by simp at h
 | p :: os, k, hc, i, oi, j, oj, hi, hj, hij, hm => by
  simp only [chkH, Bool.and_eq_true] at hc
  obtain ⟨j, rfl⟩ : ∃ j', j = j' + 1 := ⟨j - 1, by omega⟩
  cases i with
  | zero =>
   simp at hi
   subst hi
   exact chkH1_at hc.1 j oj (by simpa using hj) (by rw [show k + 1 + j = k + (j + 1) by omega]; exact hm)
  | succ i => exact chkH_at hc.2 i oi j oj (by simpa using hi) (by simpa using hj) (by omega) (by rw [show k + 1 + j = k + (j + 1) by omega, show k + 1 + i = k + (i + 1) by omega]; exact hm)
theorem chkE_at {ms : List Nat} {n0 N : Nat} : ∀ {fs : Fp} {k : Nat}, chkE ms n0 N fs k = true → ∀ i f, fs[i]? = some f → ∀ x ∈ f.2, x < n0 ∨ (n0 + 8 * (k + i) ≤ x ∧ x < n0 + 8 * (k + i) + 8) ∨ (x < n0 + 8 * N ∧ (ms.getD (k + i) 0).testBit ((x - n0) / 8) = true)
 | [], k, _, i, f, h => by simp at h
 | p :: os, k, hc, i, f, h => by
  simp only [chkE, Bool.and_eq_true] at hc
  cases i with
  | zero =>
   simp at h
   subst h
   intro x hx
   have := List.all_eq_true.1 hc.1 x hx
   simp only [Bool.or_eq_true, decide_eq_true_eq, Bool.and_eq_true, or_assoc] at this
   exact this
  | succ i =>
   rw [show k + (i + 1) = k + 1 + i by omega]
   exact chkE_at hc.2 i f (by simpa using h)

/-! ### The order of the text serves for all -/
def FirstK (l : Array Bool) (N k : Nat) : Prop := l.size = N ∧ ∀ j, j < N → l[j]? = some (decide (j < k))
theorem firstK_true {l : Array Bool} {N k : Nat} (h : FirstK l N k) {j : Nat} (hj : l.getD j false = true) : j < N ∧ j < k := by
 by_cases hlt : j < N
 ·refine ⟨hlt, ?_⟩
  rw [Array.getD_eq_getD_getElem?, h.2 j hlt] at hj
  simpa using hj
 ·rw [Array.getD_eq_getD_getElem?, Array.getElem?_eq_none (by rw [h.1]; omega)] at hj
  cases hj
theorem firstK_false {l : Array Bool} {N k : Nat} (h : FirstK l N k) {j : Nat} (hj : l.getD j true = false) : j < N ∧ k ≤ j := by
 by_cases hlt : j < N
 ·refine ⟨hlt, ?_⟩
  rw [Array.getD_eq_getD_getElem?, h.2 j hlt] at hj
  simpa using hj
 ·rw [Array.getD_eq_getD_getElem?, Array.getElem?_eq_none (by rw [h.1]; omega)] at hj
  cases hj
theorem firstK_set {l : Array Bool} {N k : Nat} (h : FirstK l N k) (hk : k < N) : FirstK (l.setIfInBounds k true) N (k + 1) := by
 refine ⟨by simp [h.1], fun j hj => ?_⟩
 by_cases hjk : k = j
 ·subst hjk
  simp [h.1, hk]
 ·rw [Array.getElem?_setIfInBounds_ne hjk, h.2 j hj]
  congr 1
  simp only [decide_eq_decide]
  omega

theorem chain_any {l : List Oper} {n0 : Nat} {recs : List Rec} {Qf : (Nat → PV) → (Nat → Option Blk) → Prop} {C : Nat → Nat → Bool} (hC : Clo l.toArray C)
  (hind : ∀ i oi j oj, l[i]? = some oi → l[j]? = some oj → i < j → C j i = false → Ind l oi oj (recs.getD i default) (recs.getD j default)) :
  ∀ (os : List Oper) (k : Nat) (rs : List Rec) (tm : Nat → PV) (H : Nat → Option Blk) (listed : Array Bool), l.drop k = os → recs.drop k = rs → k ≤ l.length → FirstK listed l.length k → Chain P T nt l Qf os (n0 + 8 * k) rs tm H →
   anyA P T nt l.toArray n0 (fun i => recs.getD i default) Qf (l.length - k) listed tm H
 | [], k, rs, tm, H, listed, ho, hr, hk, hl, h => by
  have hN : l.length ≤ k := List.drop_eq_nil_iff.1 ho
  rw [show l.length - k = 0 by omega]
  refine ⟨?_, h.2⟩
  refine List.eq_nil_iff_forall_not_mem.2 fun j hj => ?_
  have := firstK_false hl (mem_ready.1 hj).1
  omega
 | o :: os, k, rs, tm, H, listed, ho, hr, hk, hl, h => by
  obtain ⟨r, rs', rfl, hst, hch⟩ := h
  have hlt : k < l.length := by
   rcases Nat.lt_or_ge k l.length with h | h
   ·exact h
   ·rw [List.drop_eq_nil_iff.2 h] at ho; cases ho
  have hok : l[k]? = some o := by
   have := congrArg (·[0]?) ho
   simpa using this
  have hrk : recs.getD k default = r := by
   have := congrArg (·[0]?) hr
   simp only [List.getElem?_drop, Nat.add_zero, List.getElem?_cons_zero] at this
   rw [List.getD_eq_getElem?_getD, this]; rfl
  have hcl : Closed l.toArray listed := fun j oj hoj hlj e he hb => by
   have h1 := firstK_true hl hlj
   have h2 := hC.back j oj hoj e he hb
   rw [Array.getD_eq_getD_getElem?, hl.2 e.on (by omega)]
   simp
   omega
  have hrd : k ∈ Region.ready .any l.toArray listed := by
   refine mem_ready.2 ⟨?_, o, by simpa using hok, fun e he hb => ?_⟩
   ·rw [Array.getD_eq_getD_getElem?, hl.2 k hlt]; simp
   ·have h2 := hC.back k o (by simpa using hok) e he hb
    rw [Array.getD_eq_getD_getElem?, hl.2 e.on (by omega)]
    simp
    exact h2
  rw [show l.length - k = (l.length - (k + 1)) + 1 by omega]
  refine anyA_first hC (i := k) (by simpa using hok) (l.length - (k + 1)) listed tm H hcl (fun j oj hj hjk hun hno => ?_) hrd ?_ ?_
  ·have := firstK_false hl hun
   exact hind k o j oj hok (by simpa using hj) (by omega) hno
  ·show StepR P T l o (n0 + 8 * k) (recs.getD k default) tm H
   rw [hrk]; exact hst
  ·show anyA P T nt l.toArray n0 (fun i => recs.getD i default) Qf _ _ (putF nt tm o.dst (recs.getD k default).pv) ((recs.getD k default).eff.on H)
   rw [hrk]
   exact chain_any hC hind os (k + 1) rs' _ _ _ (by rw [← List.drop_drop, ho]; rfl) (by rw [← List.drop_drop, hr]; rfl) (by omega) (firstK_set hl hlt) hch

theorem sim_drew {n0 : Nat} {S : Fr n0} {B : Nat} {W0 : World} {st : St} {a : Act} {w : World} {d : Nat} (h : Sim S B nt W0 st a w) : Sim S B nt W0 st a { w with drawn := d } := by
 obtain ⟨c, rfl, hH, hok, hfresh, hrep, hsz, hdef, hbel, hS⟩ := h
 have hg : c.w.grownBy { c.w with drawn := d } none := ⟨rfl, rfl, rfl, Nat.le_refl _, fun _ _ _ => rfl⟩
 obtain ⟨c', e1, e2, e3, hp⟩ := post_world hok hg
 exact ⟨c', e1, by rw [hp.H, hH]; rfl, hp.heap, fun id hid hA => by rcases (hp.A id).1 hA with h | h; exact hfresh id hid h; simp at h, fun t => (hrep t).mono hp.le, hsz, hdef.to hp.only, by rw [← e1]; exact hbel.trans hp.below, hS.post hp⟩

theorem swp_draw (hT : TyOk P T) (hP : P.follows .mixedOrders = true) {Q : Exit → St → Prop} {st : St} {id : Nat} {l : List Oper} {ms : List Nat} (hm : (chkM ms l 0 && chkT l ms l 0) = true)
  (h : runD P T nt l l st.n st.tm st.H [] fun fp tm H n => (chkH ms fp.reverse 0 && chkE ms st.n l.length fp.reverse 0) = true ∧ Q .normal ⟨tm, H, n⟩) : SWp P nt n0 (.region id l.toArray true) Q st := fun S B W0 a w hs => by
 refine wp_region_any hP ?_
 have hs := sim_drew (d := w.drawn + 1) hs
 generalize { w with drawn := w.drawn + 1 } = w at hs
 rw [Bool.and_eq_true] at hm
 obtain ⟨rs, tm', H', hlen, ⟨hh, hq⟩, hch⟩ := runD_chain _ _ _ _ _ h
 rw [Bool.and_eq_true] at hh
 simp only [List.append_nil, List.reverse_reverse] at hh
 have hC := clo_of hm.1
 have hfp : ∀ i, i < l.length → (rs.map Rec.fp)[i]? = some (rs.getD i default).fp := fun i hi => by
  have : rs[i]? = some rs[i] := List.getElem?_eq_getElem (by omega)
  rw [List.getElem?_map, List.getD_eq_getElem?_getD, this]; rfl
 obtain ⟨c, rfl, hH, hok, hfresh, hrep, hsz, hdef, hbel, hS⟩ := hs
 have hany := chain_any hC (recs := rs) (n0 := st.n) (P := P) (T := T) (nt := nt) (Qf := fun t h => t = getT tm' ∧ h = getH H') (fun i oi j oj hi hj hij hno => by
  have li := (List.getElem?_eq_some_iff.1 hi).1
  have lj := (List.getElem?_eq_some_iff.1 hj).1
  obtain ⟨t1, t2, t3⟩ := chkT_at hm.2 i oi j oj hi hj hij (by rw [Nat.zero_add, Nat.zero_add]; exact hno)
  obtain ⟨d1, d2, d3⟩ := chkH_at hh.1 i _ j _ (hfp i li) (hfp j lj) hij (by rw [Nat.zero_add, Nat.zero_add]; exact hno)
  refine ⟨t1, t2, t3, fun p hp => ⟨disj_at d1 p.1 (List.mem_map.2 ⟨p, hp, rfl⟩), fun q hq e => ?_⟩, fun q hq => disj_at d3 q.1 (List.mem_map.2 ⟨q, hq, rfl⟩)⟩
  exact disj_at d2 p.1 (List.mem_map.2 ⟨p, hp, rfl⟩) (e ▸ List.mem_map.2 ⟨q, hq, rfl⟩)) l 0 rs (getT st.tm) (getH st.H) (Array.replicate l.length false) rfl rfl (by omega) ⟨by simp, fun j hj => by simp [hj]⟩ hch
 refine anyA_sound hT hC (n0 := st.n) (recs := fun i => rs.getD i default) (Qf := fun t h => t = getT tm' ∧ h = getH H') (S := S) (B := B) (W0 := W0) (nt := nt) (fun i hi p hp => ?_) (fun tm H c a hqf hcH hok hf hrep hsz hdef hbel hS => ?_) _ _ _ _ a c hany (fun j o ho hl => ?_) hH hok (fun k hk _ q hq => hfresh _ (by omega)) (fun id hid => hfresh id (by omega)) hrep hsz hdef hbel hS
 ·have hi' : i < l.length := by simpa using hi
  have hsz' : l.toArray.size = l.length := by simp
  rw [hsz']
  have := chkE_at hh.2 i _ (hfp i hi') p.1 (List.mem_map.2 ⟨p, hp, rfl⟩)
  rw [Nat.zero_add] at this
  refine ⟨by omega, fun k hk hki e e' => ?_⟩
  rcases this with h | h | ⟨_, h⟩
  ·omega
  ·omega
  ·rw [show (p.1 - st.n) / 8 = k by omega] at h
   exact h
 ·obtain ⟨rfl, rfl⟩ := hqf
  exact ⟨_, hq, c, rfl, hcH, hok, fun id hid => hf id (by simpa using hid), hrep, hsz, hdef, hbel, hS⟩
 ·intro e he hb
  exfalso
  rw [Array.getD_eq_getD_getElem?] at hl
  by_cases hj : j < l.length
  ·simp [hj] at hl
  ·simp [hj] at hl
end Go.Pv


namespace Go.Pv
set_option linter.unusedVariables false
set_option linter.unusedSimpArgs false
open Go Go.RowKit
variable {P : Program} {T : Ty} {nt n0 : Nat}

/-! ### What goes through for one end goes through for a wider one -/
theorem ldP_mon {ti : TI} {H : Nat → Option Blk} {p : PV} : Mon (ldP ti H p) := fun K K' hk h => by
 cases p <;> try (exact h.elim)
 case ptr id i j tot =>
  simp only [ldP] at h ⊢
  cases hb : H id with
  | none => rw [hb] at h; exact h.elim
  | some b => rw [hb] at h; exact ⟨h.1, ldC_mon K K' hk h.2⟩
 case rop cs i j => exact ldC_mon K K' hk h
theorem fldP_mon {H : Nat → Option Blk} {off : Nat} {p : PV} : Mon (fldP H off p) := fun K K' hk h => by
 cases p <;> try (exact h.elim)
 case ptr => exact ⟨h.1, hk _ h.2⟩
 case rop => exact hk _ h
theorem ixS_mon {H : Nat → Option Blk} {te : TI} {i : Int} {p : PV} : Mon (ixS H te i p) := fun K K' hk h => by
 cases p <;> try (exact h.elim)
 case ro => exact ⟨h.1, h.2.1, h.2.2.1, hk _ h.2.2.2⟩
 case sl id off m tot =>
  simp only [ixS] at h ⊢
  cases hb : H id with
  | none => rw [hb] at h; exact h.elim
  | some b => rw [hb] at h; exact ⟨h.1, h.2.1, h.2.2.1, h.2.2.2.1, hk _ h.2.2.2.2⟩
 case asl id j m =>
  simp only [ixS] at h ⊢
  cases hb : H id with
  | none => rw [hb] at h; exact h.elim
  | some b => rw [hb] at h; exact ⟨h.1, h.2.1, h.2.2.1, hk _ h.2.2.2⟩
theorem ixA_mon {H : Nat → Option Blk} {m : Nat} {te : TI} {i : Int} {p : PV} : Mon (ixA H m te i p) := fun K K' hk h => by
 cases p <;> try (exact h.elim)
 case ptr => exact ⟨h.1, h.2.1, h.2.2.1, hk _ h.2.2.2⟩
 case rop => exact ⟨h.1, h.2.1, hk _ h.2.2⟩
theorem slP_mon {H : Nat → Option Blk} {te : TI} {l h' : Option Int} {p : PV} : Mon (slP H te l h' p) := fun K K' hk h => by
 cases p <;> try (exact h.elim)
 case ro => exact ⟨h.1, h.2.1, h.2.2.1, h.2.2.2.1, hk _ h.2.2.2.2⟩
 case nil => exact ⟨h.1, h.2.1, hk _ h.2.2⟩
 case sl id off m tot =>
  simp only [slP] at h ⊢
  cases hb : H id with
  | none => rw [hb] at h; exact h.elim
  | some b => rw [hb] at h; exact ⟨h.1, h.2.1, h.2.2.1, h.2.2.2.1, h.2.2.2.2.1, hk _ h.2.2.2.2.2⟩
theorem slA_mon {H : Nat → Option Blk} {m : Nat} {x : Int} {p : PV} : Mon (slA H m x p) := fun K K' hk h => by
 cases p <;> try (exact h.elim)
 rename_i id i j tot
 simp only [slA] at h ⊢
 cases hb : H id with
 | none => rw [hb] at h; exact h.elim
 | some b => rw [hb] at h; exact ⟨h.1, h.2.1, h.2.2.1, h.2.2.2.1, h.2.2.2.2.1, h.2.2.2.2.2.1, hk _ h.2.2.2.2.2.2⟩
theorem sl0_mon {H : Nat → Option Blk} {p : PV} : Mon (sl0 H p) := fun K K' hk h => by
 cases p <;> try (exact h.elim)
 case ro => exact hk _ h
 case nil => exact hk _ h
 case sl id off m tot =>
  simp only [sl0] at h ⊢
  cases hb : H id with
  | none => rw [hb] at h; exact h.elim
  | some b => rw [hb] at h; exact hk _ h
theorem ops2_mon {op : BinOp} {k : IntKind} {a b : Int} : Mon (ops2 op k a b) := fun K K' hk h => by
 cases op <;> simp only [ops2] at h ⊢ <;> first | exact hk _ h | exact ⟨h.1, hk _ h.2⟩
theorem sh2_mon {op : BinOp} {k : IntKind} {a b : Int} : Mon (sh2 op k a b) := fun K K' hk h => by
 cases op <;> simp only [sh2] at h ⊢ <;> exact ⟨h.1, hk _ h.2⟩
theorem bin_mon {xt : TypeId} {op : BinOp} {x y : PV} : Mon (bin T xt op x y) := fun K K' hk h => by
 unfold bin at h ⊢
 split at h
 ·split at h
  ·exact sh2_mon K K' hk h
  ·exact sh2_mon K K' hk h
  ·exact ⟨h.1, ops2_mon K K' hk h.2⟩
 ·split at h
  ·obtain ⟨hk', h⟩ := h
   split at h
   ·exact ⟨hk', hk _ h⟩
   ·exact ⟨hk', hk _ h⟩
   ·exact h.elim
  ·exact h.elim
 ·split at h
  ·exact hk _ h
  ·exact hk _ h
  ·exact ⟨h.1, hk _ h.2⟩
  ·exact h.elim
 ·split at h
  ·split at h
   ·split at h
    ·split at h
     ·exact hk _ h
     ·exact hk _ h
     ·exact h.elim
    ·exact h.elim
   ·exact h.elim
  ·exact h.elim
 ·exact h.elim
theorem apS_mon {H : Nat → Option Blk} {n : Nat} {e : TypeId} {te : TI} {s x : PV} : Mon2 (apS H n e te s x) := fun K K' hk h => by
 cases s <;> try (exact h.elim)
 case nil cs => exact rdS_mon _ _ (fun c hc => ⟨hc.1, hc.2.1, hc.2.2.1, hk _ _ hc.2.2.2⟩) h
 case sl id off m tot =>
  obtain ⟨e1, e2, h⟩ := h
  simp only [apS]
  refine ⟨e1, e2, ?_⟩
  cases hb : H id with
  | none => rw [hb] at h; exact h.elim
  | some b =>
   rw [hb] at h
   exact ⟨h.1, h.2.1, h.2.2.1, h.2.2.2.1, rdS_mon _ _ (fun c hc => ⟨hc.1, hc.2.1, apC_mon _ _ (fun d hd => hk _ _ hd) hc.2.2⟩) h.2.2.2.2⟩
theorem bltn_mon {ρ : TypeId → Operand → PV} {H : Nat → Option Blk} {n : Nat} {b : Builtin} {args : List Operand} {ts : List TypeId} : Mon2 (bltn T ρ H n b args ts) := fun K K' hk h => by
 unfold bltn at h ⊢
 split at h
 ·split at h
  ·split at h <;> first | exact hk _ _ h | exact h.elim
  ·exact h.elim
 ·split at h
  ·exact mxF_mon _ _ _ _ (fun v hv => hk _ _ hv) h
  ·exact h.elim
 ·split at h
  ·exact mxF_mon _ _ _ _ (fun v hv => hk _ _ hv) h
  ·exact h.elim
 ·obtain ⟨e1, h⟩ := h
  split at h
  ·exact h.elim
  ·split at h
   ·split at h
    ·exact h.elim
    ·exact ⟨e1, h.1, apS_mon _ _ hk h.2⟩
   ·exact h.elim
 ·split at h
  ·exact h.elim
  ·split at h
   ·split at h
    ·exact h.elim
    ·exact cpS_mon hk h
   ·exact h.elim
 ·exact h.elim

theorem opv_mon {o : Oper} {ρ : TypeId → Operand → PV} {H : Nat → Option Blk} {n : Nat} : Mon2 (opv P T o ρ H n) := fun K K' hk h => by
 cases hop : o.op <;> simp only [opv, hop] at h ⊢ <;> try (exact h.elim)
 case move x => exact hk _ _ h
 case assign x => exact hk _ _ h
 case pick c x y =>
  split at h
  ·exact ⟨fun e => hk _ _ (h.1 e), fun e => hk _ _ (h.2 e)⟩
  ·exact h.elim
 case alloc e =>
  split at h
  ·split at h
   ·exact ⟨h.1, hk _ _ h.2⟩
   ·exact ⟨h.1, hk _ _ h.2⟩
  ·exact h.elim
 case box e x =>
  split at h
  ·exact ⟨h.1, hk _ _ h.2⟩
  ·exact h.elim
 case build t parts =>
  split at h
  ·split at h
   ·split at h
    ·exact fillP_mon _ _ _ _ (fun c hc => hk _ _ hc) h
    ·split at h
     ·exact fillP_mon _ _ _ _ (fun c hc => hk _ _ hc) h
     ·exact h.elim
    ·exact h.elim
   ·exact h.elim
  ·exact h.elim
 case buildSlice t len parts =>
  split at h
  ·split at h
   ·split at h
    ·obtain ⟨a1, a2, a3, h⟩ := h
     split at h
     ·refine ⟨a1, a2, a3, fillP_mon _ _ _ _ (fun c hc => ⟨hc.1, mvL_mon _ _ _ _ (fun x y hx => ?_) hc.2⟩) h⟩
      split at hx
      ·exact hx.imp (hk _ _) (hk _ _)
      ·exact hx.elim
     ·exact h.elim
    ·exact h.elim
   ·exact h.elim
  ·exact h.elim
 case load t x =>
  split at h
  ·exact ldP_mon _ _ (fun v hv => hk _ _ hv) h
  ·exact h.elim
 case store t x y =>
  split at h
  ·split at h
   ·split at h
    ·obtain ⟨a1, h⟩ := h
     split at h
     ·obtain ⟨a2, a3, h1, h2⟩ := h
      exact ⟨a1, a2, a3, fun e => stC_mon _ _ (fun c hc => hk _ _ hc) (h1 e), fun e => mvL_mon _ _ _ _ (fun x y hx => ⟨hx.1, stC_mon _ _ (fun c hc => hk _ _ hc) hx.2⟩) (h2 e)⟩
     ·exact h.elim
    ·exact h.elim
   ·exact h.elim
  ·exact h.elim
 case nilCheck x =>
  split at h <;> first | exact ⟨h.1, hk _ _ h.2⟩ | exact hk _ _ h | exact h.elim
 case binOp op t x y u => exact bin_mon _ _ (fun v hv => hk _ _ hv) h
 case unOp op t x => split at h <;> first | exact hk _ _ h | exact h.elim
 case convert s d x =>
  split at h
  ·split at h
   ·split at h
    ·exact hk _ _ h
    ·exact h.elim
   ·split at h
    ·split at h
     ·refine ⟨h.1, rdS_mon _ _ (fun c hc => ?_) h.2⟩
      split at hc
      ·exact hk _ _ hc
      ·exact hk _ _ hc
      ·exact hc.elim
     ·exact h.elim
    ·exact h.elim
   ·exact h.elim
  ·exact h.elim
 case makeFunc fn first caps => split at h <;> first | exact ⟨h.1, hk _ _ h.2⟩ | exact h.elim
 case makeSlice t l cp =>
  split at h
  ·split at h
   ·split at h
    ·refine idx_mon _ _ (fun i hi => idx_mon _ _ (fun j hj => ?_) hi) h
     obtain ⟨a1, a2, a3, a4, a5, hj⟩ := hj
     refine ⟨a1, a2, a3, a4, a5, ?_⟩
     split at hj
     ·obtain ⟨a6, hj⟩ := hj
      refine ⟨a6, ?_⟩
      split at hj
      ·exact ⟨hj.1, hj.2.imp (hk _ _) (hk _ _)⟩
      ·exact hj.elim
      ·split at hj
       ·exact hj.imp (hk _ _) (hk _ _)
       ·exact hj.elim
     ·exact hj.elim
    ·exact h.elim
   ·exact h.elim
  ·exact h.elim
 case slice t x lo hi mx =>
  split at h
  ·split at h
   ·split at h
    ·split at h
     ·exact ⟨h.1, h.2.1, h.2.2.1, sl0_mon _ _ (fun v hv => hk _ _ hv) h.2.2.2⟩
     ·exact oidx_mon _ _ (fun l hl => oidx_mon _ _ (fun m hm => slP_mon _ _ (fun v hv => hk _ _ hv) hm) hl) h
    ·exact h.elim
   ·exact ⟨h.1, h.2.1, h.2.2.1, oidx_mon _ _ (fun m hm => slA_mon _ _ (fun v hv => hk _ _ hv) hm) h.2.2.2⟩
   ·exact h.elim
  ·exact h.elim
 case fieldAddr t x f =>
  split at h
  ·split at h
   ·split at h
    ·exact ⟨h.1, fldP_mon _ _ (fun v hv => hk _ _ hv) h.2⟩
    ·exact h.elim
   ·exact h.elim
  ·exact h.elim
 case indexAddr t x ix =>
  split at h
  ·split at h
   ·split at h
    ·exact h.elim
    ·exact idx_mon _ _ (fun i hi => ixS_mon _ _ (fun v hv => hk _ _ hv) hi) h
   ·split at h
    ·exact h.elim
    ·exact idx_mon _ _ (fun i hi => ixA_mon _ _ (fun v hv => hk _ _ hv) hi) h
   ·exact h.elim
  ·exact h.elim
 case index t x ix =>
  split at h
  ·split at h
   ·split at h
    ·refine idx_mon _ _ (fun i hi => ?_) h
     split at hi
     ·refine ⟨hi.1, hi.2.1, ?_⟩
      have hi := hi.2.2
      split at hi
      ·rename_i ha; rw [if_pos ha]; exact ⟨hi.1, hk _ _ hi.2⟩
      ·rename_i ha; rw [if_neg ha]; obtain ⟨v, a3, h2⟩ := hi; exact ⟨v, a3, hk _ _ h2⟩
     ·exact hi.elim
    ·exact h.elim
   ·exact h.elim
  ·exact h.elim
 case extract x i =>
  split at h
  ·split at h
   ·exact hk _ _ h
   ·exact h.elim
  ·exact h.elim
 case call cl =>
  split at h
  ·exact bltn_mon _ _ hk h
  ·split at h
   ·rcases h with h | ⟨Hr, r, e, k1, k2, k3, k4, k5⟩
    ·refine .inl (frzA_mon _ _ _ (fun x y hx => ?_) h)
     obtain ⟨r, h2, h3⟩ := hx
     refine ⟨r, h2, ?_⟩
     split at h3
     ·rename_i hs; rw [if_pos hs]; exact hk _ _ h3
     ·rename_i hs; rw [if_neg hs]; exact hk _ _ h3
    ·exact .inr ⟨Hr, r, e, k1, k2, k3, k4, hk _ _ k5⟩
   ·exact h.elim
  ·exact h.elim
theorem step1_mon {o : Oper} {tm : Nat → PV} {H : Nat → Option Blk} {n : Nat} {b : Bool} : Mon2 (step1 P T o tm H n b) := fun K K' hk h => by
 unfold step1 at h ⊢
 split at h
 ·split at h
  ·exact ⟨h.1, h.2.1, h.2.2.1, hk _ _ h.2.2.2⟩
  ·exact ⟨h.1, opv_mon _ _ hk h.2⟩
 ·exact ⟨h.1, opv_mon _ _ hk h.2⟩
theorem gd_mon {ops : List Oper} {o : Oper} {tm : Nat → PV} : Mon (gd ops o tm) := fun K K' hk h => by
 unfold gd at h ⊢
 split at h
 ·exact hk _ h
 ·split at h
  ·split at h
   ·exact hk _ h
   ·exact hk _ h
   ·exact h.elim
  ·exact h.elim

/-! ### A region in parts -/
theorem runs_app {all : List Oper} {K : St → Prop} : ∀ (l1 l2 : List Oper) (st : St), runs P T nt all l1 st (fun st' => runs P T nt all l2 st' K) → runs P T nt all (l1 ++ l2) st K
 | [], l2, st, h => h
 | o :: l1, l2, st, h => by
  rw [List.cons_append]
  refine gd_mon _ _ (fun b h1 => ?_) h
  split at h1
  ·exact step1_mon _ _ (fun pv eff h2 => runs_app l1 l2 _ h2) h1
  ·split at h1
   ·exact ⟨h1.1, runs_app l1 l2 _ h1.2⟩
   ·rcases h1 with ⟨v, h2, h3⟩ | ⟨v, E, h2, h3, h4⟩
    ·exact .inl ⟨v, h2, runs_app l1 l2 _ h3⟩
    ·exact .inr ⟨v, E, h2, h3, runs_app l1 l2 _ h4⟩
theorem runs_cut {all l : List Oper} {K : St → Prop} {st : St} (k : Nat) (h : ∀ K' : St → Prop, (∀ st', runs P T nt all (l.drop k) st' K → K' st') → runs P T nt all (l.take k) st K') : runs P T nt all l st K := by
 rw [← List.take_append_drop k l]
 exact runs_app _ _ _ (h _ fun st' h => h)
theorem runD_app {all : List Oper} {K : Fp → List (Nat × PV) → List (Nat × Option Blk) → Nat → Prop} : ∀ (l1 l2 : List Oper) (n : Nat) (tm : List (Nat × PV)) (H : List (Nat × Option Blk)) (fp : Fp), runD P T nt all l1 n tm H fp (fun fp tm H n => runD P T nt all l2 n tm H fp K) → runD P T nt all (l1 ++ l2) n tm H fp K
 | [], l2, n, tm, H, fp, h => h
 | o :: l1, l2, n, tm, H, fp, h => by
  rw [List.cons_append]
  refine gd_mon _ _ (fun b h1 => ?_) h
  split at h1
  ·exact step1_mon _ _ (fun pv eff h2 => runD_app l1 l2 _ _ _ _ h2) h1
  ·split at h1
   ·exact ⟨h1.1, runD_app l1 l2 _ _ _ _ h1.2⟩
   ·rcases h1 with ⟨v, h2, h3⟩ | ⟨v, E, h2, h2', h2'', h3⟩
    ·exact .inl ⟨v, h2, runD_app l1 l2 _ _ _ _ h3⟩
    ·exact .inr ⟨v, E, h2, h2', h2'', runD_app l1 l2 _ _ _ _ h3⟩
theorem runD_cut {all l : List Oper} {K : Fp → List (Nat × PV) → List (Nat × Option Blk) → Nat → Prop} {n : Nat} {tm : List (Nat × PV)} {H : List (Nat × Option Blk)} {fp : Fp} (k : Nat)
  (h : ∀ K' : Fp → List (Nat × PV) → List (Nat × Option Blk) → Nat → Prop, (∀ fp tm H n, runD P T nt all (l.drop k) n tm H fp K → K' fp tm H n) → runD P T nt all (l.take k) n tm H fp K') : runD P T nt all l n tm H fp K := by
 rw [← List.take_append_drop k l]
 exact runD_app _ _ _ _ _ _ (h _ fun _ _ _ _ h => h)

/-! ### A choice -/
def cnd (tm : Nat → PV) (x : Operand) (K : Bool → Prop) : Prop := match ev (fun _ => none) tm 0 x with
 | .bool t => K t
 | _ => False
theorem swp_if {Q : Exit → St → Prop} {st : St} {x : Operand} {c d : Code} (h : ∀ K : Bool → Prop, (∀ t, (t = true → SWp P nt n0 c Q st) → (t = false → SWp P nt n0 d Q st) → K t) → cnd (getT st.tm) x K) : SWp P nt n0 (.cond x c d) Q st := by
 have := h (fun t => (t = true → SWp P nt n0 c Q st) ∧ (t = false → SWp P nt n0 d Q st)) fun t h1 h2 => ⟨h1, h2⟩
 unfold cnd at this
 split at this
 ·rename_i t ht
  exact swp_cond ht this.1 this.2
 ·exact this.elim

/-- A loop, round by round: so many at most. -/
def SRnd (P : Program) (nt n0 : Nat) (c : Code) (Q : Exit → St → Prop) : Nat → St → Prop
 | 0, _ => False
 | n + 1, st => SWp P nt n0 c (thn (SRnd P nt n0 c Q n) Q) st
/-! ### An empty slice may be taken for an own row -/
theorem swp_own {Q : Exit → St → Prop} {st : St} {c : Code} (t : Nat) {cs : Cells} (e : TypeId) (ht : getT st.tm t = .nil cs) (hl : cs.len = 0) (h : SWp P nt n0 c Q ⟨(t, .sl st.n 0 0 0) :: st.tm, (st.n, some ⟨cs, false, e⟩) :: st.H, st.n + 1⟩) : SWp P nt n0 c Q st := fun S B W0 a w hs => by
 refine h S B W0 a w ?_
 obtain ⟨cx, rfl, hH, hok, hfresh, hrep, hsz, hdef, hbel, hS⟩ := hs
 obtain ⟨c', h1, h2, hp⟩ := post_new (V' := .slice none 0 0) (blk' := ⟨cs, false, e⟩) (id := st.n) (w' := cx.w) hok (hfresh st.n (Nat.le_refl _)) ⟨rfl, rfl, rfl, Nat.le_refl _, fun _ _ _ => rfl⟩ (fun g hg => by simp [blkOf] at hg) (fun c' _ hw => by
  unfold BlkOk
  exact ⟨[], ⟨by simp [hl], .inl ⟨rfl, hl⟩⟩, by simp [hl], fun i j hi => by rw [hl] at hi; omega⟩)
 refine ⟨c', h1, ?_, hp.heap, fun id hid hA => ?_, fun t' => ?_, hsz, hdef.to hp.only, by rw [← h1]; exact hbel.trans hp.below, hS.post hp⟩
 ·rw [hp.H, hH]
  funext i
  show put (getH st.H) st.n _ i = _
  simp only [put_at, getH]
 ·have hid' : st.n + 1 ≤ id := hid
  rcases (hp.A id).1 hA with h | h
  ·exact hfresh id (by omega) h
  ·simp at h; omega
 ·show Rep c' false (if t = t' then .sl st.n 0 0 0 else getT st.tm t') _
  by_cases htt : t = t'
  ·subst htt
   rw [if_pos rfl]
   have hr := hrep t
   rw [ht] at hr
   have hA : c'.A st.n := (hp.A st.n).2 (.inr (by simp))
   generalize a.tmps.getD t undef = v at hr
   cases hr with
   | nil _ _ A _ =>
    refine .sl st.n 0 0 0 _ hA ⟨A, 0, rfl, Nat.le_refl _⟩ fun blk hb => ?_
    have hb' : (⟨cs, false, e⟩ : Blk) = blk := by
     rw [hp.H] at hb
     have : put cx.H st.n (some ⟨cs, false, e⟩) st.n = some blk := hb
     rw [put_same] at this
     cases this; rfl
    subst hb'
    refine ⟨rfl, by show 0 ≤ cs.len; omega, fun _ => ⟨Nat.le_refl _, fun _ => .inr ⟨?_, A, rfl⟩, fun h => .inl rfl⟩⟩
    rw [h2, put_same]
  ·rw [if_neg htt]
   exact (hrep t').mono hp.le

/-- The same of an empty slice in a box. -/
theorem swp_ownb {Q : Exit → St → Prop} {st : St} {c : Code} (bid j : Nat) (e : TypeId) {wd : Nat} {row : List PV} {be : TypeId} {cs : Cells} (hb : getH st.H bid = some ⟨.rows wd [row], true, be⟩) (hj : row[j]? = some (.nil cs)) (hl : cs.len = 0)
  (h : SWp P nt n0 c Q ⟨st.tm, (bid, some ⟨.rows wd [row.set j (.sl st.n 0 0 0)], true, be⟩) :: (st.n, some ⟨cs, false, e⟩) :: st.H, st.n + 1⟩) : SWp P nt n0 c Q st := fun S B W0 a w hs => by
 refine h S B W0 a w ?_
 obtain ⟨cx, rfl, hH, hok, hfresh, hrep, hsz, hdef, hbel, hS⟩ := hs
 have hbx : cx.H bid = some ⟨.rows wd [row], true, be⟩ := by rw [hH]; exact hb
 have hAb := (hok.ok bid _ hbx).1
 have hne : bid ≠ st.n := fun he => hfresh st.n (Nat.le_refl _) (he ▸ hAb)
 obtain ⟨c', h1, h2, hp⟩ := post_new (V' := .slice none 0 0) (blk' := ⟨cs, false, e⟩) (id := st.n) (w' := cx.w) hok (hfresh st.n (Nat.le_refl _)) ⟨rfl, rfl, rfl, Nat.le_refl _, fun _ _ _ => rfl⟩ (fun g hg => by simp [blkOf] at hg) (fun c' _ hw => by
  unfold BlkOk
  exact ⟨[], ⟨by simp [hl], .inl ⟨rfl, hl⟩⟩, by simp [hl], fun i j hi => by rw [hl] at hi; omega⟩)
 have hHn : c'.H st.n = some ⟨cs, false, e⟩ := by
  rw [hp.H]
  exact put_same _ _ _
 have hHb : c'.H bid = some ⟨.rows wd [row], true, be⟩ := by
  rw [hp.H]
  have : put cx.H st.n (some ⟨cs, false, e⟩) bid = some ⟨.rows wd [row], true, be⟩ := by rw [put_ne _ _ (Ne.symm hne)]; exact hbx
  exact this
 have hA : c'.A st.n := (hp.A st.n).2 (.inr (by simp))
 have hsl : ∀ v, Rep c' false (.nil cs) v → Rep c' false (.sl st.n 0 0 0) v := fun v hr => by
  cases hr with
  | nil _ _ A _ =>
   refine .sl st.n 0 0 0 _ hA ⟨A, 0, rfl, Nat.le_refl _⟩ fun blk hb => ?_
   rw [hHn] at hb
   cases hb
   refine ⟨rfl, by show 0 ≤ cs.len; omega, fun _ => ⟨Nat.le_refl _, fun _ => .inr ⟨?_, A, rfl⟩, fun h => .inl rfl⟩⟩
   rw [h2, put_same]
 obtain ⟨c2, k1, k2, kp⟩ := post_upd (V' := c'.loc bid) (blk' := ⟨.rows wd [row.set j (.sl st.n 0 0 0)], true, be⟩) (id := bid) (w' := c'.w) hp.heap hHb (World.grownBy.refl c'.w _) (Nat.le_refl _) rfl rfl (fun _ => rfl) (fun g hg => .inl hg) (fun c2 hle hw => by
  have hbo := (hp.heap.ok bid _ hHb).2
  unfold BlkOk at hbo ⊢
  rw [if_pos rfl] at hbo ⊢
  obtain ⟨g, vs, T', e1, e2, e3, e4, e5⟩ := hbo
  refine ⟨g, vs, T', e1, e2, by show c2.w.heap[g]? = _; rw [hw]; exact e3, e4, fun i j' hi hj' => ?_⟩
  obtain ⟨v, f1, f2, f3⟩ := e5 i j' hi hj'
  refine ⟨v, f1, ?_, f3⟩
  have hi0 : i = 0 := by have : i < 1 := hi; omega
  subst hi0
  have g1 : (Cells.rows wd [row]).get 0 j' = row.getD j' .any := rfl
  have g2 : (Cells.rows wd [row.set j (.sl st.n 0 0 0)]).get 0 j' = (row.set j (.sl st.n 0 0 0)).getD j' .any := rfl
  rw [g1] at f2
  rw [g2]
  by_cases hjj : j = j'
  ·subst hjj
   have hjl : j < row.length := (List.getElem?_eq_some_iff.1 hj).1
   rw [List.getD_eq_getElem?_getD, hj] at f2
   rw [List.getD_eq_getElem?_getD, List.getElem?_set_self hjl]
   exact (hsl v f2).mono hle
  ·rw [List.getD_eq_getElem?_getD, List.getElem?_set_ne hjj, ← List.getD_eq_getElem?_getD]
   exact f2.mono hle)
 refine ⟨c2, k1.trans h1, ?_, kp.heap, fun id hid hA => ?_, fun t' => ((hrep t').mono hp.le).mono kp.le, hsz, (hdef.to hp.only).to kp.only, by rw [← h1, ← k1]; exact (hbel.trans hp.below).trans kp.below, (hS.post hp).post kp⟩
 ·rw [kp.H, hp.H, hH]
  funext i
  show put (put (getH st.H) st.n _) bid _ i = _
  simp only [put_at, getH]
 ·have hid' : st.n + 1 ≤ id := hid
  rcases (kp.A id).1 hA with h | h
  ·rcases (hp.A id).1 h with h | h
   ·exact hfresh id (by omega) h
   ·simp at h; omega
  ·simp at h
   rw [h] at hid'
   exact hfresh bid (by omega) hAb

/-! ### Own blocks may be given up: what they hold is read from now on -/
theorem zip_get {c c' : Cx} {a : Act} {tm : List (Nat × PV)} (h0 : ∀ t, Rep c' false (getT tm t) (a.tmps.getD t undef)) : ∀ (ts : List Nat) (ps : List PV), RepL c' false ps (ts.map fun t => a.tmps.getD t undef) → ∀ t, Rep c' false (getT (ts.zip ps ++ tm) t) (a.tmps.getD t undef)
 | [], ps, _, t => h0 t
 | t1 :: ts, [], h, t => absurd h.1 (by simp)
 | t1 :: ts, p :: ps, h, t => by
  obtain ⟨u, us, he, hp, hr⟩ := h.uncons
  rw [List.map_cons] at he
  obtain ⟨rfl, rfl⟩ := List.cons.inj he
  show Rep c' false (if t1 = t then p else getT (ts.zip ps ++ tm) t) _
  split
  ·rename_i e; subst e; exact hp
  ·exact zip_get (c := c) h0 ts ps hr t
/-! ### A scope with a label to which the run jumps back -/
def jmp (l : Nat) (K : St → Prop) (Q : Exit → St → Prop) : Exit → St → Prop
 | .goto l', st => l' = l ∧ K st
 | e, st => Q e st
theorem least {p : Nat → Prop} : ∀ m, p m → ∃ m, p m ∧ ∀ k, p k → m ≤ k := by
 intro m
 induction m using Nat.strongRecOn with
 | _ m ih =>
  intro h
  by_cases hk : ∃ k, k < m ∧ p k
  ·obtain ⟨k, h1, h2⟩ := hk
   exact ih k h1 h2
  ·exact ⟨m, h, fun k hp => Nat.le_of_not_lt fun hlt => hk ⟨k, hlt, hp⟩⟩
end Go.Pv


namespace Go.Pv
set_option linter.unusedVariables false
set_option linter.unusedSimpArgs false
open Go Go.RowKit
variable {P : Program} {T : Ty} {nt : Nat}
/-! ### A call that gets places of the caller's own: out of a walk of its body -/
theorem eff_mem : ∀ {e : Eff} {H : Nat → Option Blk} {id : Nat} {b : Blk}, e.on H id = some b → id ∈ e.map (·.1) ∨ H id = some b
 | [], H, id, b, h => .inr h
 | (i, x) :: r, H, id, b, h => by
  rcases eff_mem (e := r) h with h1 | h1
  ·exact .inl (List.mem_cons_of_mem _ h1)
  ·by_cases hi : i = id
   ·subst hi; exact .inl (by simp)
   ·rw [put_ne _ _ hi] at h1; exact .inr h1
/-- The same of results: tuples may hold structs. -/
def inR1 (L : Nat → Bool) : PV → Bool
 | .agg cs => cs.all (inL1 L)
 | p => inL1 L p
def PV.inR (L : Nat → Bool) : PV → Bool
 | .tup cs => cs.all (inR1 L)
 | p => p.inL L
theorem Rep.cutR {L : Nat → Bool} {c c' : Cx} (h : CutP L c c') {q : Bool} {p : PV} {v : Value} (hl : p.inR L = true) (r : Rep c q p v) : Rep c' q p v := by
 cases p with
 | tup cs =>
  cases r with
  | tup _ _ vs h1 h2 =>
   refine .tup _ cs vs h1 fun i p v h3 h4 => ?_
   have hp : inR1 L p = true := List.all_eq_true.1 hl p (List.mem_of_getElem? h3)
   cases p with
   | agg l => exact (h2 i _ v h3 h4).cutP h hp
   | fn f caps =>
    cases caps with
    | nil => exact (h2 i _ v h3 h4).cutP1 h hp
    | cons => simp [inR1, inL1] at hp
   | _ => exact (h2 i _ v h3 h4).cutP1 h hp
 | _ => exact r.cutP h hl
def fnPostH (T : Ty) (fn : Func) (Hr : List (Nat × Option Blk)) (r : PV) (e : Eff) : Exit → St → Prop := fun x st => (x = .normal ∨ x = .ret) ∧ (resP T (getH st.H) (getT st.tm) fn.results.toList fun vs => r = tupOf vs) ∧
 r.inR (fun id => (e.on (getH Hr) id).isSome) = true ∧ ∀ p ∈ Hr.map (·.1) ++ e.map (·.1), ∀ b, e.on (getH Hr) p = some b → getH st.H p = some b ∧ b.inL (fun id => (e.on (getH Hr) id).isSome) = true
def tupV : List Value → Value
 | [u] => u
 | us => .tuple us.toArray
theorem tup_rep {c : Cx} {ps : List PV} {us : List Value} (h : RepL c false ps us) : Rep c false (tupOf ps) (tupV us) := by
 match us, ps, h with
 | [], [], _ => exact .tup false [] _ rfl (fun i q v h => by simp at h)
 | [u], [q], hl => exact hl.2 0 q u rfl rfl
 | u :: v :: us, p :: q :: qs, hl => exact .tup false _ _ (by simpa using hl.1) (fun i p u h1 h2 => hl.2 i p u h1 (by simpa using h2))
 | [], _ :: _, hl => exact absurd hl.1 (by simp)
 | [_], [], hl => exact absurd hl.1 (by simp)
 | [_], _ :: _ :: _, hl => exact absurd hl.1 (by simp)
 | _ :: _ :: _, [], hl => exact absurd hl.1 (by simp)
 | _ :: _ :: _, [_], hl => exact absurd hl.1 (by simp)
theorem results_run2 {fn : Func} {tmps : Array Value} {us : List Value} {w : World} (h : (fn.results.toList.mapM (rvS tmps)).run P w = .ok us w) : (results fn tmps).run P w = .ok (tupV us) w := by
 have := results_run h
 cases us with
 | nil => exact this
 | cons u us => cases us <;> exact this
theorem hcall_body (hT : TyOk P T) {f : FuncId} {fn : Func} {code : Code} {ps : List PV} {Hr : List (Nat × Option Blk)} {n : Nat} {r : PV} {e : Eff} (hf : P.funcs[f]? = some fn) (hb : fn.body = some code) (hname : (fn.name == "runtime.NumGoroutine") = false) (hlen : ps.length ≤ fn.ntmps)
  (h : SWp P fn.ntmps n code (fnPostH T fn Hr r e) ⟨argT 0 ps, Hr, n⟩) : HCall P f ps Hr n r e := by
 refine ⟨⟨fn, hf, hname, by rw [hb]; rfl⟩, fun c B vs hok hH hfr hargs => ?_⟩
 have hsz : vs.size ≤ fn.ntmps := by rw [← hargs.1]; exact hlen
 refine calls_of_marks hf hb (wp_mono (h ⟨fun _ => False, c⟩ B c.w _ c.w ⟨c, rfl, hH, hok, hfr, fun t => ?_, by simp; omega, trivial, Below.refl _ _, ⟨fun b h => h.elim, .refl _, fun b h => ⟨h, rfl, fun h => h⟩, fun id hA => Nat.lt_of_not_le fun hle => hfr id hle hA, Nat.le_refl _⟩⟩) ?_)
 ·rw [argT_get, if_neg (by omega), Nat.sub_zero]
  cases hp : ps[t]? with
  | none => exact .any ..
  | some p =>
   have hlt : t < vs.size := by rw [← hargs.1]; exact (List.getElem?_eq_some_iff.1 hp).1
   have hv : vs[t]? = some vs[t] := Array.getElem?_eq_getElem hlt
   have hv' : (vs ++ Array.replicate (fn.ntmps - vs.size) undef)[t]? = some vs[t] := by rw [Array.getElem?_append_left hlt]; exact hv
   rw [Array.getD_eq_getD_getElem?, hv']
   exact hargs.2 t p _ hp hv
 ·rintro x a' w' ⟨st, ⟨he, hr, hin, hkeep⟩, cf0, rfl, hHf0, hokf0, _, hrep0, _, hdef, hbel0, hK0⟩
  have key : ∀ cf, cf0.Le cf → cf.H = cf0.H → cf.A = cf0.A → cf.loc = cf0.loc → HeapOk cf B → Below B c.w cf.w → Keep (n0 := n) ⟨fun _ => False, c⟩ B c.w cf → ∃ v, (results fn a'.tmps).run P cf.w = .ok v cf.w ∧ ∃ v' c', Ending.returned v = .returned v' ∧ c'.w = cf.w ∧ Rep c' false r v' ∧ Post c c' B e := by
   intro cf hlef hHc hAc hlc hokf hbel hK
   have hHf : cf.H = getH st.H := hHc.trans hHf0
   have hrep : ∀ t, Rep cf false (getT st.tm t) (a'.tmps.getD t undef) := fun t => (hrep0 t).mono hlef
   rw [← hHf] at hr
   obtain ⟨us, qs, h1, h2, h3⟩ := res_ok hT hokf hrep _ _ hr
   have hres := results_run2 h1
   let L : Nat → Bool := fun id => (e.on (getH Hr) id).isSome
   let c' : Cx := { cf with H := e.on (getH Hr), A := fun id => c.A id ∨ id ∈ e.map (·.1) }
   have hk : ∀ id b, e.on (getH Hr) id = some b → cf.H id = some b ∧ b.inL L = true := fun id b hb => by
    have hm : id ∈ Hr.map (·.1) ++ e.map (·.1) := by
     rcases eff_mem hb with h | h
     ·exact List.mem_append_right _ h
     ·exact List.mem_append_left _ (List.mem_map.2 ⟨_, getH_mem Hr id b h, rfl⟩)
    have := hkeep id hm b hb
    rw [hHf]
    exact this
   have hA : ∀ id b, e.on (getH Hr) id = some b → c.A id ∨ id ∈ e.map (·.1) := fun id b hb => by
    rcases eff_mem hb with h | h
    ·exact .inr h
    ·rw [← hH] at h; exact .inl (hok.ok id b h).1
   have hcut : CutP L cf c' := ⟨rfl, rfl, rfl, fun id hL _ => by
    obtain ⟨b, hb⟩ := Option.isSome_iff_exists.1 hL
    exact hA id b hb, hk⟩
   have hle : c.Le c' := ⟨hK.le.stable, fun id h => .inl h, fun id b' h h' => hK.le.ids id b' h (hk id b' h').1⟩
   have hheap : HeapOk c' B := by
    refine ⟨fun id blk hb => ?_, fun id blk g hb hg => hokf.own id blk g (hk id blk hb).1 hg, fun i1 i2 b1 b2 g h1 h2 g1 g2 => hokf.inj i1 i2 b1 b2 g (hk i1 b1 h1).1 (hk i2 b2 h2).1 g1 g2, hokf.base, hokf.lt⟩
    obtain ⟨h4, h5⟩ := hk id blk hb
    obtain ⟨h6, h7⟩ := hokf.ok id blk h4
    refine ⟨hA id blk hb, ?_⟩
    unfold BlkOk at h7 ⊢
    split
    ·rename_i hbox
     rw [if_pos hbox] at h7
     obtain ⟨g, us, T', e1, e2, e3, e4⟩ := h7
     have hlo : blk.cs.inL L = true := by simpa [Blk.inL, hbox] using h5
     exact ⟨g, us, T', e1, e2, e3.to rfl (fun L' ps he t ht => ht.cutP hcut (lp_inL (by rw [he] at hlo; exact hlo) t)), e4.1, fun i j hi hj => by obtain ⟨v, h6, h7, h8⟩ := e4.2 i j hi hj; exact ⟨v, h6, h7.cutP1 hcut (inL_get hlo i j), h8⟩⟩
    ·rename_i hbox
     rw [if_neg hbox] at h7
     obtain ⟨us, e1, e2⟩ := h7
     exact ⟨us, e1, e2.1, fun i j hi hj => by obtain ⟨v, h6, h7, h8⟩ := e2.2 i j hi hj; exact ⟨v, h6, @Rep.bare cf c' (fun b h1 h2 => ⟨h1, h2, fun _ => rfl⟩) true rfl _ _ h7, h8⟩⟩
   have hpost : Post c c' B e := by
    refine ⟨hle, hheap, by rw [hH], fun id => Iff.rfl, hbel, fun b hb ho => (hK.only b ⟨Nat.lt_of_lt_of_le hb hok.base, fun id blk h hg => ?_⟩).2.2 ho, fun b hb => ?_⟩
    ·have := ((hok.ok id blk h).2.lt hg).1
     omega
    ·obtain ⟨k1, k2, k3⟩ := hK.only b hb
     exact ⟨⟨k1.1, fun id blk h => k1.2 id blk (hk id blk h).1⟩, k2, k3⟩
   have hrr : Rep c' false r (tupV us) := by
    rw [h2] at hin ⊢
    exact (tup_rep h3).cutR hcut hin
   exact ⟨_, hres, _, c', rfl, rfl, hrr, hpost⟩
  have hlv := leave_marks (P := P) (fn := fn) (tmps := a'.tmps) (R := fun en w' => ∃ v c', en = .returned v ∧ c'.w = w' ∧ Rep c' false r v ∧ Post c c' B e) (n0 := n) (S := ⟨fun _ => False, c⟩) hok.base a'.defers cf0 hdef hokf0 hbel0 hK0 key
  rcases he with rfl | rfl
  ·exact hlv
  ·exact hlv
theorem hcl_mk {H : Nat → Option Blk} {n : Nat} {g : FuncId} {args : List PV} {K : PV → Eff → Prop} {Hr : List (Nat × Option Blk)} {r : PV} {e : Eff} (h : HCall P g args Hr n r e)
  (h1 : ∀ p ∈ Hr, p.1 ∈ args.flatMap PV.ids ∧ p.1 < n ∧ H p.1 = p.2 ∧ ∀ b, p.2 = some b → b.inL (fun i => (Hr.map (·.1)).contains i) = true)
  (h2 : args.all (PV.inL fun i => (Hr.map (·.1)).contains i) = true) (h3 : ∀ p ∈ e, p.1 ∈ Hr.map (·.1) ∨ (n ≤ p.1 ∧ p.1 < n + 8)) (h4 : K r e) : hcl P H n g args K :=
 ⟨Hr, r, e, h, h1, h2, h3, h4⟩
end Go.Pv


namespace Go.Pv
set_option linter.unusedVariables false
set_option linter.unusedSimpArgs false
open Go Go.RowKit
variable {P : Program}
/-! ### The numbers of new blocks may be changed -/
def ren1 (τ : Nat → Nat) : PV → PV
 | .sl id off n tot => .sl (τ id) off n tot
 | .ptr id i j tot => .ptr (τ id) i j tot
 | p => p
def leafR : PV → Bool
 | .sl .. | .ptr .. | .any => true
 | p => pur1 p
def ren2 (τ : Nat → Nat) : PV → PV
 | .agg l => .agg (l.map (ren1 τ))
 | p => ren1 τ p
def leaf2 : PV → Bool
 | .agg l => l.all leafR
 | p => leafR p
def renP (τ : Nat → Nat) : PV → PV
 | .tup l => .tup (l.map (ren2 τ))
 | p => ren2 τ p
def okR : PV → Bool
 | .tup l => l.all leaf2
 | p => leaf2 p
structure Ren (τ : Nat → Nat) (c c' : Cx) : Prop where
 w : c'.w = c.w
 ow : c'.ow = c.ow
 loc : ∀ id, c'.loc (τ id) = c.loc id
 A : ∀ id, c'.A (τ id) ↔ c.A id
 H : ∀ id, c'.H (τ id) = c.H id
theorem Ren.bare {τ : Nat → Nat} {c c' : Cx} (h : Ren τ c c') {p : PV} {v : Value} (r : Rep c true p v) : Rep c' true p v :=
 @Rep.bare c c' (fun b h1 h2 => by rw [h.w, h.ow]; exact ⟨h1, h2, fun _ => rfl⟩) true rfl _ _ r
def tr : List (Nat × Nat) → Nat → Nat
 | [], id => id
 | (a, b) :: r, id => if id = a then b else if id = b then a else tr r id
def trF (l : List (Nat × Nat)) : List Nat := l.flatMap fun p => [p.1, p.2]
end Go.Pv


namespace Go.Pv
set_option linter.unusedVariables false
set_option linter.unusedSimpArgs false
open Go Go.RowKit
variable {P : Program} {nt n0 : Nat}
/-! ### Two blocks' numbers change places -/
def sw2 (i j id : Nat) : Nat := if id = i then j else if id = j then i else id
def renW (τ : Nat → Nat) (p : PV) : PV := if okR p = true then renP τ p else .any
def purB : Option Blk → Bool
 | none => true
 | some b => b.cs.pur
end Go.Pv


namespace Go.Pv
set_option linter.unusedVariables false
set_option linter.unusedSimpArgs false
open Go Go.RowKit
variable {P : Program} {T : Ty} {nt n0 : Nat}

/-! ### Ranges over functions: the round's fence -/
def FR (ro : Option Nat) : Fence := { Fence.wide with round := ro }
theorem calls_FR {ro : Option Nat} {n : Nat} {f : FuncId} {args : Array Value} {w : World} {R : Ending → World → Prop} (h : Calls P f args w R) : CallsIn (FR ro) n P f args w R := by
 have h1 := (callsIn_wide (n := n)).2 h
 cases ro with
 | none => exact h1
 | some l => exact CallsIn.inRound l h1
theorem op_in {ro : Option Nat} {n : Nat} {o : Oper} {a : Act} {w : World} {next : Act → World → Prop} {Q : Exit → Act → World → Prop} (hnd : ∀ c, o.op ≠ .defer c) (h : o.wp P a w next Q) : o.wpIn (FR ro) n P a w next Q := by
 refine ⟨fun _ _ => trivial, ?_⟩
 unfold Oper.wp at h
 rw [show (FR ro).round = ro from rfl, Oper.semAt_eq ro _ _ hnd]
 generalize (execOp a.eval o).run P w = r at h
 have hd : ¬ (FR ro).depth.isSome = true := by simp [FR, Fence.wide]
 cases r with
 | ok x w' =>
  cases x with
  | value v => exact h
  | skip => exact h
  | defer d => exact h
  | enter f args => exact ⟨fun h => absurd h hd, calls_FR h⟩
  | row s args =>
   refine ⟨fun h => absurd h hd, fun c cs _ => ?_⟩
   obtain ⟨v, w2, k1, k2⟩ := (show Rows P s args w' _ from h) c cs
   exact ⟨v, w2, k1, stepsIn_wide.2 k2⟩
  | round l f t a b => exact h.elim
  | _ => exact h.elim
 | halt e w' =>
  cases e with
  | panic v => exact h
  | _ => exact h.elim

/-! ### Code, walked in a round's frame -/
def SRp (P : Program) (ro : Option Nat) (nt n0 : Nat) (c : Code) (Q : Exit → St → Prop) (st : St) : Prop := ∀ (S : Fr n0) (B : Nat) (W0 : World) (a : Act) (w : World), Sim S B nt W0 st a w → c.wpIn (FR ro) 0 P (fun e a' w' => ∃ st', Q e st' ∧ Sim S B nt W0 st' a' w') a w
variable {ro : Option Nat} {Q : Exit → St → Prop} {st : St}
theorem srp_skip (h : Q .normal st) : SRp P ro nt n0 .skip Q st := fun S B W0 a w hs => wpIn_skip ⟨st, h, hs⟩
theorem srp_exit {id : Nat} (h : Q (.exit id) st) : SRp P ro nt n0 (.exit id) Q st := fun S B W0 a w hs => wpIn_exit ⟨st, h, hs⟩
theorem srp_ret (h : Q .ret st) : SRp P ro nt n0 .ret Q st := fun S B W0 a w hs => wpIn_ret ⟨st, h, hs⟩
theorem srp_seq {x y : Code} (h : ∀ K : St → Prop, (∀ st, SRp P ro nt n0 y Q st → K st) → SRp P ro nt n0 x (thn K Q) st) : SRp P ro nt n0 (.seq x y) Q st := fun S B W0 a w hs => by
 refine wpIn_seq (wpIn_mono (h (SRp P ro nt n0 y Q) (fun _ h => h) S B W0 a w hs) ?_)
 rintro e a' w' ⟨st', h1, h2⟩
 cases e with
 | normal => exact h1 S B W0 a' w' h2
 | _ => exact ⟨st', h1, h2⟩
theorem srp_cond {x : Operand} {c d : Code} {t : Bool} (hx : ev (fun _ => none) (getT st.tm) 0 x = .bool t) (h1 : t = true → SRp P ro nt n0 c Q st) (h2 : t = false → SRp P ro nt n0 d Q st) : SRp P ro nt n0 (.cond x c d) Q st := fun S B W0 a w hs => by
 obtain ⟨cx, rfl, hH, hok, hfresh, hrep, hsz, hdef, hbel, hS⟩ := hs
 have hv : a.eval x = .bool t := by
  cases x with
  | tmp i =>
   have := hrep i
   simp only [ev] at hx
   rw [hx] at this
   show a.tmps.getD i undef = _
   generalize a.tmps.getD i undef = v at this
   cases this
   rfl
  | const v =>
   have := cst_ok (c := cx) [] (by simp) v false
   simp only [ev] at hx
   rw [hx] at this
   cases this
   rfl
  | func f => cases hx
  | global g => cases hx
 exact wpIn_cond_split hv (fun ht => h1 ht S B W0 a cx.w ⟨cx, rfl, hH, hok, hfresh, hrep, hsz, hdef, hbel, hS⟩) (fun ht => h2 ht S B W0 a cx.w ⟨cx, rfl, hH, hok, hfresh, hrep, hsz, hdef, hbel, hS⟩)
theorem srp_if {x : Operand} {c d : Code} (h : ∀ K : Bool → Prop, (∀ t, (t = true → SRp P ro nt n0 c Q st) → (t = false → SRp P ro nt n0 d Q st) → K t) → cnd (getT st.tm) x K) : SRp P ro nt n0 (.cond x c d) Q st := by
 have := h (fun t => (t = true → SRp P ro nt n0 c Q st) ∧ (t = false → SRp P ro nt n0 d Q st)) fun t h1 h2 => ⟨h1, h2⟩
 unfold cnd at this
 split at this
 ·rename_i t ht
  exact srp_cond ht this.1 this.2
 ·exact this.elim
theorem srp_block {id : Nat} {c : Code} (h : SRp P ro nt n0 c (inBlk id Q) st) : SRp P ro nt n0 (.block id c) Q st := fun S B W0 a w hs => by
 refine wpIn_block (wpIn_mono (h S B W0 a w hs) ?_)
 rintro e a' w' ⟨st', h1, h2⟩
 cases e with
 | exit id' =>
  show if id' = id then _ else _
  have h1' : if id' = id then Q .normal st' else Q (.exit id') st' := h1
  split
  ·rename_i he
   rw [if_pos he] at h1'
   exact ⟨st', h1', h2⟩
  ·rename_i he
   rw [if_neg he] at h1'
   exact ⟨st', h1', h2⟩
 | _ => exact ⟨st', h1, h2⟩
theorem listIn_ok (hT : TyOk P T) {S : Fr n0} {B : Nat} {W0 : World} {ops : Array Oper} {Q : Exit → Act → World → Prop} {K : St → Prop} {rest : List Oper} {n : Nat} (hQ : ∀ st a w, K st → Sim S B nt W0 st a w → wpListIn (FR ro) n P ops Q rest a w)
  (l : List Oper) (st : St) (a : Act) (w : World) (h : runs P T nt ops.toList l st K) (hs : Sim S B nt W0 st a w) : wpListIn (FR ro) n P ops Q (l ++ rest) a w :=
 runs_okW hT (W := fun l a w => wpListIn (FR ro) n P ops Q (l ++ rest) a w) hQ (fun o l a w hn hw h => by rw [List.cons_append]; unfold wpListIn; rw [hw, if_pos rfl]; exact op_in hn h) (fun o l a w hw h => by rw [List.cons_append]; unfold wpListIn; rw [hw, if_neg (by simp)]; exact ⟨fun _ _ => trivial, h⟩) l st a w h hs
theorem srp_region (hT : TyOk P T) {id : Nat} {l : List Oper} (h : runs P T nt l l st fun st' => Q .normal st') : SRp P ro nt n0 (.region id l.toArray false) Q st := fun S B W0 a w hs =>
 wpIn_region_list (by
  have e : l.toArray.toList = l := rfl
  have := listIn_ok (ro := ro) (n := 0) hT (ops := l.toArray) (Q := fun e a' w' => ∃ st', Q e st' ∧ Sim S B nt W0 st' a' w') (K := fun st' => Q .normal st') (rest := []) (fun st' a' w' hk hs' => ⟨st', hk, hs'⟩) l st a w (by rw [e]; exact h) hs
  rw [List.append_nil] at this
  exact this)

/-! ### A round: the body's contract -/
/-- The loop's record stands at this number; a round on these arguments goes on to the next, and does that to the blocks. -/
def RCall (P : Program) (L : Loop) (i : Nat) (args : List PV) (Hr : List (Nat × Option Blk)) (n : Nat) (e : Eff) : Prop :=
 args.length = L.params.size ∧ ∀ (c : Cx) (B g : Nat) (vs : Array Value), HeapOk c B → c.H = getH Hr → (∀ id, n ≤ id → ¬ c.A id) → ArgsOk c false args vs → blkOf (c.loc i) = some g →
  RoundIn (FR none) 0 P g L.fn ((L.params.zip vs).foldl (fun tmps (t, a) => tmps.setIfInBounds t a) L.tmps) L.assign L.body c.w fun en w' => en = .returned (.bool true) ∧ ∃ c', c'.w = w' ∧ Post c c' B e
end Go.Pv


namespace Go.Pv
set_option linter.unusedVariables false
set_option linter.unusedSimpArgs false
open Go Go.RowKit
variable {P : Program} {T : Ty} {nt n0 : Nat}

/-- The slots with a round's arguments in the parameters. -/
def tmA (nt : Nat) : List (Nat × PV) → List (Nat × PV) → List (Nat × PV)
 | [], tm => tm
 | (t, p) :: r, tm => tmA nt r (putT nt tm (some t) p)
theorem foldl_set (ps : Array Nat) (vs : Array Value) (ts : Array Value) : (ps.zip vs).foldl (fun tmps (t, a) => tmps.setIfInBounds t a) ts = (ps.toList.zip vs.toList).foldl (fun tmps x => tmps.setIfInBounds x.1 x.2) ts := by
 rw [← Array.foldl_toList]
 simp
theorem tmA_ok {c : Cx} : ∀ (prm : List Nat) (args : List PV) (vs : List Value) (tm : List (Nat × PV)) (ts : Array Value), prm.length = args.length → args.length = vs.length → (∀ (i : Nat) (p : PV) (v : Value), args[i]? = some p → vs[i]? = some v → Rep c false p v) → ts.size = nt → (∀ t, Rep c false (getT tm t) (ts.getD t undef)) →
  ((prm.zip vs).foldl (fun tmps x => tmps.setIfInBounds x.1 x.2) ts).size = nt ∧ ∀ t, Rep c false (getT (tmA nt (prm.zip args) tm) t) (((prm.zip vs).foldl (fun tmps x => tmps.setIfInBounds x.1 x.2) ts).getD t undef)
 | [], args, vs, tm, ts, _, _, _, hs, h => by
  simp only [List.zip_nil_left, List.foldl_nil, tmA]
  exact ⟨hs, h⟩
 | t :: prm, [], vs, tm, ts, h1, _, _, _, _ => by simp at h1
 | t :: prm, p :: args, [], tm, ts, _, h2, _, _, _ => by simp at h2
 | t :: prm, p :: args, v :: vs, tm, ts, h1, h2, ha, hs, h => by
  have hp := ha 0 p v rfl rfl
  have hput := put_rep (nt := nt) (a := { tmps := ts, defers := [] }) h hs (some t) hp
  have hset : (({ tmps := ts, defers := [] } : Act).put (some t) v).tmps = ts.setIfInBounds t v := rfl
  rw [hset] at hput
  simp only [List.zip_cons_cons, List.foldl_cons, tmA]
  exact tmA_ok prm args vs _ _ (by simpa using h1) (by simpa using h2) (fun i p v h3 h4 => ha (i + 1) p v h3 h4) (by rw [Array.size_setIfInBounds]; exact hs) hput

/-- Of a context with the number i left out of what is known. -/
def drop1 (c : Cx) (i : Nat) : Cx := { c with H := fun id => if i = id then none else c.H id }
theorem drop1_le (c : Cx) (i : Nat) : c.Le (drop1 c i) := ⟨fun b h1 h2 => ⟨h1, h2, fun _ => rfl⟩, fun _ h => h, fun id blk _ h => by
 have h' : (if i = id then none else c.H id) = some blk := h
 by_cases e : i = id
 ·rw [if_pos e] at h'; cases h'
 ·rw [if_neg e] at h'; exact ⟨blk, h', Nat.le_refl _, rfl, rfl, fun _ => rfl⟩⟩
theorem drop1_H {c : Cx} {i id : Nat} {blk : Blk} (h : (drop1 c i).H id = some blk) : i ≠ id ∧ c.H id = some blk := by
 have h' : (if i = id then none else c.H id) = some blk := h
 by_cases e : i = id
 ·rw [if_pos e] at h'; cases h'
 ·rw [if_neg e] at h'; exact ⟨e, h'⟩
theorem drop1_ok {c : Cx} {B i : Nat} (h : HeapOk c B) : HeapOk (drop1 c i) B :=
 ⟨fun id blk hb => ⟨(h.ok id blk (drop1_H hb).2).1, (h.ok id blk (drop1_H hb).2).2.mono (drop1_le c i) fun _ _ => rfl⟩, fun id blk g hb hg => h.own id blk g (drop1_H hb).2 hg, fun i1 i2 b1 b2 g h1 h2 g1 g2 => h.inj i1 i2 b1 b2 g (drop1_H h1).2 (drop1_H h2).2 g1 g2, h.base, h.lt⟩

/-- What a round must leave behind. -/
def RKeep (i : Nat) (Hr : List (Nat × Option Blk)) (e : Eff) (st : St) : Prop := getH st.H i = none ∧ ∀ p ∈ Hr.map (·.1) ++ e.map (·.1), p ≠ i → ∀ b, e.on (getH Hr) p = some b → getH st.H p = some b ∧ b.inL (fun k => (k != i) && (e.on (getH Hr) k).isSome) = true
def rEnd (i : Nat) (Hr : List (Nat × Option Blk)) (e : Eff) : Exit → St → Prop := fun x st => x = .normal ∧ RKeep i Hr e st
def rMid (P : Program) (ro : Option Nat) (nt n i : Nat) (body : Code) (Hr : List (Nat × Option Blk)) (e : Eff) : Exit → St → Prop := fun x st => x = .normal ∧ SRp P ro nt n body (rEnd i Hr e) st

theorem rcall_body {L : Loop} {i : Nat} {ps : List PV} {Tt : TypeId} {args : List PV} {Hr : List (Nat × Option Blk)} {n : Nat} {e : Eff} (hst : L.state = .ready) (hpd : L.pending = none) (hlen : args.length = L.params.size) (hnt : L.tmps.size = nt)
  {tm0 : List (Nat × PV)} (htm : ∀ t, getT tm0 t = .any ∨ getT tm0 t = ps.getD t .any) (hrec : getH Hr i = some ⟨.lp L ps, true, Tt⟩) (hei : e.on (getH Hr) i = getH Hr i)
  (h : ∀ ro, SRp P ro nt n L.assign (rMid P ro nt n i L.body Hr e) ⟨tmA nt (L.params.toList.zip args) tm0, (i, none) :: Hr, n⟩) : RCall P L i args Hr n e := by
 refine ⟨hlen, fun c B g vs hok hH hfr hargs hg => ?_⟩
 have hHi : c.H i = some ⟨.lp L ps, true, Tt⟩ := by rw [hH]; exact hrec
 obtain ⟨hAi, hbi⟩ := hok.ok i _ hHi
 have hgB := hbi.lt hg
 have how := hok.own i _ g hHi hg
 have hLg : c.w.heap[g]? = some (.loop L) ∧ ∀ t, Rep c false (ps.getD t .any) (L.tmps.getD t undef) := by
  unfold BlkOk at hbi
  rw [if_pos rfl] at hbi
  obtain ⟨g', us, T', e1, e2, e3, e4⟩ := hbi
  rw [e1] at hg
  have : g' = g := by simpa [blkOf] using hg
  subst this
  exact e3
 have hidle : ∀ (H : Nat → Option Blk), (∀ id b, H id = some b → i ≠ id ∧ c.H id = some b) → (∀ id b, H id = some b → blkOf (c.loc id) ≠ some g) := fun H hh id b hb hl => (hh id b hb).1 (hok.inj i id _ b g hHi (hh id b hb).2 hg hl)
 -- the contexts ahead of the assignments, of the body
 have ok0 := drop1_ok (i := i) hok
 have idle0 : (drop1 c i).idle g := ⟨hgB.2, hidle _ fun id b hb => drop1_H hb⟩
 let ob : Obj := .loop { L with state := .busy }
 have hts := tmA_ok (c := drop1 c i) (nt := nt) L.params.toList args vs.toList tm0 L.tmps (by rw [Array.length_toList]; exact hlen.symm) (by rw [hargs.1]; simp) (fun k p v h1 h2 => (hargs.2 k p v h1 (by simpa using h2)).mono (drop1_le c i)) hnt (fun t => by
  rcases htm t with e1 | e1
  ·rw [e1]; exact .any ..
  ·rw [e1]; exact (hLg.2 t).mono (drop1_le c i))
 rw [← foldl_set] at hts
 refine roundIn_of_wpIn (F := FR none) trivial ?_
 have hs0 : Sim (n0 := n) ⟨fun _ => False, drop1 c i⟩ B nt c.w ⟨tmA nt (L.params.toList.zip args) tm0, (i, none) :: Hr, n⟩ { tmps := (L.params.zip vs).foldl (fun tmps (t, a) => tmps.setIfInBounds t a) L.tmps, defers := [] } c.w := by
  refine ⟨drop1 c i, rfl, ?_, ok0, hfr, hts.2, hts.1, trivial, Below.refl _ _, ⟨fun b h => h.elim, .refl _, fun b h => ⟨h, rfl, fun h => h⟩, fun id hA => Nat.lt_of_not_le fun hle => hfr id hle hA, Nat.le_refl _⟩⟩
  funext id
  show (if i = id then none else c.H id) = (if i = id then none else getH Hr id)
  rw [hH]
 refine wpIn_mono (h (some g) _ _ _ _ _ hs0) ?_
 rintro x a1 w1 ⟨st1, ⟨rfl, hbody⟩, c1, rfl, hH1, ok1, hfr1, hrep1, hsz1, hdef1, hbel1, hK1⟩
 obtain ⟨id1, hw1, ho1⟩ := hK1.only g idle0
 have hL1 : c1.w.heap[g]? = some (.loop L) := hw1.trans hLg.1
 have ho1' : c1.ow g := ho1 how
 refine ⟨_, run_beginRound hL1 hst, ?_⟩
 have hKb : Keep (n0 := n) ⟨fun _ => False, turn (drop1 c i) g ob⟩ B c.w (turn c1 g ob) := by
  refine ⟨fun b h => h.elim, ⟨fun b h1 h2 => ?_, hK1.le.all, hK1.le.ids⟩, fun b hb => ?_, hK1.lt, by show ((drop1 c i).w.putObj g ob).heap.size ≤ (c1.w.putObj g ob).heap.size; rw [World.putObj_size, World.putObj_size]; exact hK1.sz⟩
  ·have h2' : b < (drop1 c i).w.heap.size := by
    have : b < ((drop1 c i).w.putObj g ob).heap.size := h2
    rwa [World.putObj_size] at this
   have hne : b ≠ g := fun e' => h1 (by rw [e']; exact how)
   obtain ⟨k1, k2, k3⟩ := hK1.le.stable b h1 h2'
   refine ⟨k1, by show b < (c1.w.putObj g ob).heap.size; rw [World.putObj_size]; exact k2, fun o => ?_⟩
   have e1 : (turn c1 g ob).w.cell? ⟨b, o, none⟩ = c1.w.cell? ⟨b, o, none⟩ := World.cell?_of_block (World.putObj_heap_other hne)
   have e2 : (turn (drop1 c i) g ob).w.cell? ⟨b, o, none⟩ = (drop1 c i).w.cell? ⟨b, o, none⟩ := World.cell?_of_block (World.putObj_heap_other hne)
   rw [e1, e2]
   exact k3 o
  ·have hb' : (drop1 c i).idle b := ⟨by have : b < ((drop1 c i).w.putObj g ob).heap.size := hb.1; rwa [World.putObj_size] at this, hb.2⟩
   obtain ⟨k1, k2, k3⟩ := hK1.only b hb'
   refine ⟨turn_idle ob k1, ?_, k3⟩
   by_cases hne : b = g
   ·subst hne
    exact (World.putObj_heap_same k1.1).trans (World.putObj_heap_same hb'.1).symm
   ·exact (World.putObj_heap_other hne).trans (k2.trans (World.putObj_heap_other hne).symm)
 have hsb : Sim (n0 := n) ⟨fun _ => False, turn (drop1 c i) g ob⟩ B nt c.w st1 a1 (c1.w.putObj g ob) :=
  ⟨turn c1 g ob, rfl, hH1, turn_ok id1 ho1' ob ok1, hfr1, fun t => (hrep1 t).mono (turn_le ho1' ob), hsz1, by
   have hN : (turn (drop1 c i) g ob).w.heap.size = (drop1 c i).w.heap.size := World.putObj_size
   show Dfs (turn (drop1 c i) g ob).w.heap.size _ _
   rw [hN]
   refine turn_dfs ob hdef1 fun d hd ht => ?_
   obtain ⟨D, e1, e2⟩ : ∃ D, d = { target := .collected D, args := #[] } ∧ (drop1 c i).w.heap.size ≤ D := by
    clear hsz1 hrep1
    revert hd hdef1
    generalize a1.defers = l
    intro hdef1
    induction l with
    | nil => intro hd; cases hd
    | cons d0 ds ih =>
     intro hd
     obtain ⟨⟨D, e1, e2, _⟩, h3⟩ := hdef1
     rcases List.mem_cons.1 hd with rfl | hd
     ·exact ⟨D, e1, e2⟩
     ·exact ih h3 hd
   rw [e1] at ht
   have : D = g := by simpa using ht
   have := idle0.1
   omega, hbel1.trans (turn_below hgB.1 ob), hKb⟩
 refine wpIn_mono (hbody _ _ _ _ _ hsb) ?_
 rintro x a2 w2 ⟨st2, ⟨rfl, hni, hkeep⟩, c2, rfl, hH2, ok2, hfr2, hrep2, hsz2, hdef2, hbel2, hK2⟩
 obtain ⟨id2, hw2, ho2⟩ := hK2.only g (turn_idle ob idle0)
 have hL2 : c2.w.heap[g]? = some ob := hw2.trans (World.putObj_heap_same idle0.1)
 have ho2' : c2.ow g := ho2 how
 have hLe : ({ ({ L with state := .busy } : Loop) with state := .ready, pending := none } : Loop) = L := by
  cases L
  simp only at hst hpd
  subst hst hpd
  rfl
 have hrun := run_endRound (P := P) none hL2
 simp only [Option.isNone_none, if_true] at hrun
 rw [hLe] at hrun
 refine ⟨_, _, hrun, rfl, ?_⟩
 -- the context behind the round
 have ok3 := turn_ok id2 ho2' (.loop L) ok2
 let c3 : Cx := turn c2 g (.loop L)
 let Li : Nat → Bool := fun k => (k != i) && (e.on (getH Hr) k).isSome
 have hk : ∀ id b, i ≠ id → e.on (getH Hr) id = some b → c2.H id = some b ∧ b.inL Li = true := fun id b hne hb => by
  have hm : id ∈ Hr.map (·.1) ++ e.map (·.1) := by
   rcases eff_mem hb with h | h
   ·exact List.mem_append_right _ h
   ·exact List.mem_append_left _ (List.mem_map.2 ⟨_, getH_mem Hr id b h, rfl⟩)
  have := hkeep id hm (Ne.symm hne) b hb
  rw [hH2]
  exact this
 have hA : ∀ id b, e.on (getH Hr) id = some b → c.A id ∨ id ∈ e.map (·.1) := fun id b hb => by
  rcases eff_mem hb with h | h
  ·exact .inr h
  ·rw [← hH] at h; exact .inl (hok.ok id b h).1
 let c4 : Cx := { c3 with H := fun id => if i = id then none else e.on (getH Hr) id, A := fun id => i ≠ id ∧ (c.A id ∨ id ∈ e.map (·.1)) }
 have h4H : ∀ id b, c4.H id = some b → i ≠ id ∧ e.on (getH Hr) id = some b := fun id b hb => by
  have h' : (if i = id then none else e.on (getH Hr) id) = some b := hb
  by_cases e' : i = id
  ·rw [if_pos e'] at h'; cases h'
  ·rw [if_neg e'] at h'; exact ⟨e', h'⟩
 have hcut : CutP Li c3 c4 := ⟨rfl, rfl, rfl, fun id hL _ => by
  simp only [Li, Bool.and_eq_true, bne_iff_ne] at hL
  obtain ⟨b, hb⟩ := Option.isSome_iff_exists.1 hL.2
  exact ⟨Ne.symm hL.1, hA id b hb⟩, fun id b hb => hk id b (h4H id b hb).1 (h4H id b hb).2⟩
 let c5 : Cx := { c4 with H := e.on c.H, A := fun id => c.A id ∨ id ∈ e.map (·.1), loc := fun id => if i = id then c.loc i else c2.loc id }
 have hEi : e.on c.H i = some ⟨.lp L ps, true, Tt⟩ := by rw [hH, hei]; exact hrec
 have hw5 : c5.w.heap[g]? = some (.loop L) := World.putObj_heap_same id2.1
 have h5H : ∀ id b, i ≠ id → c5.H id = some b → c4.H id = some b := fun id b hne hb => by
  have hb' : e.on c.H id = some b := hb
  rw [hH] at hb'
  show (if i = id then none else e.on (getH Hr) id) = some b
  rw [if_neg hne]; exact hb'
 have h5l : ∀ id, i ≠ id → c5.loc id = c4.loc id := fun id hne => if_neg hne
 have hle45 : c4.Le c5 := ⟨fun b h1 h2 => ⟨h1, h2, fun _ => rfl⟩, fun id h => h.2, fun id b hA4 hb => ⟨b, h5H id b hA4.1 hb, Nat.le_refl _, rfl, rfl, fun _ => h5l id hA4.1⟩⟩
 have hle : c.Le c5 := by
  refine ⟨fun b h1 h2 => ?_, fun id h => .inl h, fun id b' hA1 hb => ?_⟩
  ·have hne : b ≠ g := fun e' => h1 (by rw [e']; exact how)
   have h2' : b < (turn (drop1 c i) g ob).w.heap.size := by show b < ((drop1 c i).w.putObj g ob).heap.size; rw [World.putObj_size]; exact h2
   obtain ⟨k1, k2, k3⟩ := hK2.le.stable b h1 h2'
   refine ⟨k1, by show b < (c2.w.putObj g (.loop L)).heap.size; rw [World.putObj_size]; exact k2, fun o => ?_⟩
   have e1 : c5.w.cell? ⟨b, o, none⟩ = c2.w.cell? ⟨b, o, none⟩ := World.cell?_of_block (World.putObj_heap_other hne)
   have e2 : (turn (drop1 c i) g ob).w.cell? ⟨b, o, none⟩ = c.w.cell? ⟨b, o, none⟩ := World.cell?_of_block (World.putObj_heap_other hne)
   rw [e1, ← e2]
   exact k3 o
  ·by_cases hne : i = id
   ·subst hne
    have hb' : e.on c.H i = some b' := hb
    rw [hEi] at hb'
    cases hb'
    exact ⟨_, hHi, Nat.le_refl _, rfl, rfl, fun _ => if_pos rfl⟩
   ·have h4 := h4H id b' (h5H id b' hne hb)
    obtain ⟨blk, q1, q2, q3, q4, q5⟩ := hK2.le.ids id b' hA1 (hk id b' hne h4.2).1
    exact ⟨blk, (drop1_H q1).2, q2, q3, q4, fun hq => (if_neg hne).trans (q5 hq)⟩
 have hrecg : ∀ id b, i ≠ id → c5.H id = some b → blkOf (c5.loc id) ≠ some g := fun id b hne hb hl => by
  rw [h5l id hne] at hl
  exact id2.2 id b (hk id b hne (h4H id b (h5H id b hne hb)).2).1 hl
 have hheap : HeapOk c5 B := by
  refine ⟨fun id blk hb => ?_, fun id blk g1 hb hg1 => ?_, fun i1 i2 b1 b2 g1 h1 h2 q1 q2 => ?_, ok3.base, ok3.lt⟩
  ·by_cases hne : i = id
   ·subst hne
    have hb' : e.on c.H i = some blk := hb
    rw [hEi] at hb'
    cases hb'
    refine ⟨.inl hAi, ?_⟩
    have hl : c5.loc i = c.loc i := if_pos rfl
    rw [hl]
    refine hbi.mono hle fun g1 hg1 => ?_
    rw [hg] at hg1
    cases hg1
    exact hw5.trans hLg.1.symm
   ·have h4 := h4H id blk (h5H id blk hne hb)
    obtain ⟨h5, h6⟩ := hk id blk hne h4.2
    obtain ⟨h7, h8⟩ := ok3.ok id blk h5
    refine ⟨hA id blk h4.2, ?_⟩
    have h9 : BlkOk c4 B (c4.loc id) blk := by
     unfold BlkOk at h8 ⊢
     split
     ·rename_i hbox
      rw [if_pos hbox] at h8
      obtain ⟨g', us, T', e1, e2, e3, e4⟩ := h8
      have hlo : blk.cs.inL Li = true := by simpa [Blk.inL, hbox] using h6
      exact ⟨g', us, T', e1, e2, e3.to rfl (fun L' ps he t ht => ht.cutP hcut (lp_inL (by rw [he] at hlo; exact hlo) t)), e4.1, fun k j hi hj => by obtain ⟨v, h6, h7, h8⟩ := e4.2 k j hi hj; exact ⟨v, h6, h7.cutP1 hcut (inL_get hlo k j), h8⟩⟩
     ·rename_i hbox
      rw [if_neg hbox] at h8
      obtain ⟨us, e1, e2⟩ := h8
      exact ⟨us, e1, e2.1, fun k j hi hj => by obtain ⟨v, h6, h7, h8⟩ := e2.2 k j hi hj; exact ⟨v, h6, @Rep.bare c3 c4 (fun b h1 h2 => ⟨h1, h2, fun _ => rfl⟩) true rfl _ _ h7, h8⟩⟩
    rw [h5l id hne]
    exact h9.mono hle45 fun _ _ => rfl
  ·by_cases hne : i = id
   ·subst hne
    have hl : c5.loc i = c.loc i := if_pos rfl
    rw [hl, hg] at hg1
    cases hg1
    exact ho2'
   ·rw [h5l id hne] at hg1
    exact ok3.own id blk g1 (hk id blk hne (h4H id blk (h5H id blk hne hb)).2).1 hg1
  ·by_cases n1 : i = i1
   ·by_cases n2 : i = i2
    ·exact n1.symm.trans n2
    ·subst n1
     have hl : c5.loc i = c.loc i := if_pos rfl
     rw [hl, hg] at q1
     cases q1
     exact absurd q2 (hrecg i2 b2 n2 h2)
   ·by_cases n2 : i = i2
    ·subst n2
     have hl : c5.loc i = c.loc i := if_pos rfl
     rw [hl, hg] at q2
     cases q2
     exact absurd q1 (hrecg i1 b1 n1 h1)
    ·rw [h5l i1 n1] at q1
     rw [h5l i2 n2] at q2
     exact ok3.inj i1 i2 b1 b2 g1 (hk i1 b1 n1 (h4H i1 b1 (h5H i1 b1 n1 h1)).2).1 (hk i2 b2 n2 (h4H i2 b2 (h5H i2 b2 n2 h2)).2).1 q1 q2
 have hgi : ∀ b, c.idle b → b ≠ g := fun b hb e' => hb.2 i _ hHi (by rw [hg, e'])
 have honly : ∀ b, c.idle b → c5.idle b ∧ c5.w.heap[b]? = c.w.heap[b]? ∧ (c.ow b → c5.ow b) := fun b hb => by
  have hne := hgi b hb
  have hb0 : (turn (drop1 c i) g ob).idle b := turn_idle ob ⟨hb.1, fun id blk h => hb.2 id blk (drop1_H h).2⟩
  obtain ⟨k1, k2, k3⟩ := hK2.only b hb0
  refine ⟨⟨by show b < (c2.w.putObj g (.loop L)).heap.size; rw [World.putObj_size]; exact k1.1, fun id blk hbl hl => ?_⟩, (World.putObj_heap_other hne).trans (k2.trans (World.putObj_heap_other hne)), k3⟩
  by_cases hn : i = id
  ·subst hn
   have hl' : c5.loc i = c.loc i := if_pos rfl
   rw [hl', hg] at hl
   cases hl
   exact hne rfl
  ·rw [h5l id hn] at hl
   exact k1.2 id blk (hk id blk hn (h4H id blk (h5H id blk hn hbl)).2).1 hl
 refine ⟨c5, rfl, hle, hheap, rfl, fun id => Iff.rfl, hbel2.trans (turn_below hgB.1 _), fun b hb ho => (honly b ⟨Nat.lt_of_lt_of_le hb hok.base, fun id blk h hl => ?_⟩).2.2 ho, honly⟩
 have := ((hok.ok id blk h).2.lt hl).1
 omega
end Go.Pv


namespace Go.Pv
set_option linter.unusedVariables false
set_option linter.unusedSimpArgs false
open Go Go.RowKit
variable {P : Program} {T : Ty} {nt n0 : Nat}

/-! ### The iterator: a region with a call of yield -/
theorem getH_ext {l l' : List (Nat × Option Blk)} (h : ∀ id, getH l id = getH l' id) : getH l = getH l' := funext h
/-- Where yield is called: the round goes on. -/
def YP (P : Program) (T : Ty) (nt : Nat) (all rest : List Oper) (oy : Oper) (Q : St → Prop) (st : St) : Prop :=
 ∃ (ty : Nat) (ats : List Nat) (tys : Array TypeId) (i : Nat) (L : Loop) (ps : List PV) (Tt : TypeId) (Hr : List (Nat × Option Blk)) (n : Nat) (e : Eff), oy.guard = none ∧ oy.op = .call { callee := .value (.tmp ty), args := (ats.map Operand.tmp).toArray, argTypes := tys } ∧ getT st.tm ty = .yld i ∧
  getH Hr i = some ⟨.lp L ps, true, Tt⟩ ∧ (∀ id, getH st.H id = getH Hr id) ∧ st.n ≤ n ∧ RCall P L i (ats.map (getT st.tm)) Hr n e ∧ runs P T nt all rest ⟨putT nt st.tm oy.dst (.bool true), onL e st.H, nxt e st.n⟩ Q
theorem swp_yield (hT : TyOk P T) {Q : Exit → St → Prop} {st : St} {id : Nat} {l : List Oper} (k : Nat) (oy : Oper) (hl : l = l.take k ++ oy :: l.drop (k + 1))
  (h : runs P T nt l (l.take k) st (YP P T nt l (l.drop (k + 1)) oy fun st' => Q .normal st')) : SWp P nt n0 (.region id l.toArray false) Q st := fun S B W0 a w hs => by
 refine (wpIn_wide (n := 0)).1 (wpIn_region_list ?_)
 have e : l.toArray.toList = l := rfl
 rw [e]
 have key := listIn_ok (ro := none) (n := 0) hT (S := S) (B := B) (W0 := W0) (ops := l.toArray) (Q := fun e a' w' => ∃ st', Q e st' ∧ Sim S B nt W0 st' a' w') (K := YP P T nt l (l.drop (k + 1)) oy fun st' => Q .normal st') (rest := oy :: l.drop (k + 1)) ?_ (l.take k) st a w h hs
 ·rw [← hl] at key
  exact key
 ·clear hs h
  rintro st a w ⟨ty, ats, tys, i, L, ps, Tt, Hr, n, ef, hgd, hop, hyl, hrec, hHr, hn, ⟨hlen, hround⟩, hrest⟩ hs
  obtain ⟨c, rfl, hH, hok, hfresh, hrep, hsz, hdef, hbel, hS⟩ := hs
  unfold wpListIn
  have hw : Region.wanted oy (yielded l.toArray a.tmps) = true := by
   unfold Region.wanted
   rw [hgd]
  rw [hw, if_pos rfl]
  have hHc : c.H = getH Hr := hH.trans (getH_ext hHr)
  have hHi : c.H i = some ⟨.lp L ps, true, Tt⟩ := by rw [hHc]; exact hrec
  obtain ⟨hAi, hbi⟩ := hok.ok i _ hHi
  obtain ⟨g, us, T', hloc, hBg, hlp, _⟩ : ∃ g vs T, c.loc i = .pointer (some ⟨g, 0, none⟩) ∧ B ≤ g ∧ Hb c g T vs (.lp L ps) ∧ Reps c false (.lp L ps) vs := by
   unfold BlkOk at hbi
   rw [if_pos rfl] at hbi
   exact hbi
  have hg : blkOf (c.loc i) = some g := by rw [hloc]; rfl
  have hLg : c.w.heap[g]? = some (.loop L) := hlp.1
  have hyv : a.tmps.getD ty undef = .func (.yield g) #[] #[] := by
   have := hrep ty
   rw [hyl] at this
   generalize a.tmps.getD ty undef = v at this
   cases this with
   | yld _ _ ha hs hk =>
    obtain ⟨_, h2⟩ := hk _ hHi
    obtain ⟨g', e1, e2⟩ := h2 rfl
    rw [hg] at e1
    cases e1
    exact e2
  have hev : a.eval (.tmp ty) = .func (.yield g) #[] #[] := hyv
  let vs : Array Value := (ats.map fun t => a.tmps.getD t undef).toArray
  have hargs : ((ats.map Operand.tmp).toArray.map a.eval) = vs := by
   simp only [vs, List.map_toArray, List.map_map]
   congr 1
  have hvs : vs.size = L.params.size := by
   rw [← hlen]
   simp [vs]
  have hrun : (Oper.semAt none a.eval oy).run P c.w = .ok (.round g L.fn ((L.params.zip vs).foldl (fun tmps (t, a) => tmps.setIfInBounds t a) L.tmps) L.assign L.body) c.w := by
   rw [Oper.semAt_none]
   have := run_yield (P := P) hLg hvs
   simp only [execOp, hop, resolve, hev, hargs, Deferred.ofValue, Sem.run_bind, Sem.run_pure, Result.andThen_ok, invoke]
   simpa using this
  refine ⟨fun _ _ => trivial, ?_⟩
  rw [show (FR none).round = none from rfl, hrun, Oper.uponIn_round]
  refine ⟨fun h => by simp [FR, Fence.wide] at h, ?_⟩
  refine (hround c B g vs hok hHc (fun id hid => hfresh id (by omega)) ⟨by simp [vs], fun k p v h1 h2 => ?_⟩ hg).mono ?_
  ·have h2' : (ats.map fun t => a.tmps.getD t undef)[k]? = some v := by simpa [vs] using h2
   rw [List.getElem?_map] at h1 h2'
   cases hk : ats[k]? with
   | none => rw [hk] at h1; cases h1
   | some t =>
    rw [hk] at h1 h2'
    simp only [Option.map_some, Option.some.injEq] at h1 h2'
    rw [← h1, ← h2']
    exact hrep t
  ·rintro en w' ⟨rfl, c', rfl, hpost⟩
   have hs' : Sim S B nt W0 ⟨putT nt st.tm oy.dst (.bool true), onL ef st.H, nxt ef st.n⟩ (a.put oy.dst (.bool true)) c'.w := by
    refine ⟨c', rfl, by rw [hpost.H, hH, getH_on], hpost.heap, fun id hid hA => ?_, fun t => put_rep (fun t => (hrep t).mono hpost.le) hsz oy.dst (.bool _ _) t, by rw [put_size]; exact hsz, by rw [put_defers]; exact hdef.to hpost.only, hbel.trans hpost.below, hS.post hpost⟩
    have hge := nxt_ge ef st.n
    rcases (hpost.A id).1 hA with h | h
    ·exact hfresh id (by have : nxt ef st.n ≤ id := hid; omega) h
    ·obtain ⟨p, hp, rfl⟩ := List.mem_map.1 h
     have : nxt ef st.n ≤ p.1 := hid
     have := hge.2 p hp
     omega
   have := listIn_ok (ro := none) (n := 0) hT (ops := l.toArray) (Q := fun e a' w' => ∃ st', Q e st' ∧ Sim S B nt W0 st' a' w') (K := fun st' => Q .normal st') (rest := []) (fun st' a' w' hk hs' => ⟨st', hk, hs'⟩) (l.drop (k + 1)) _ _ _ hrest hs'
   rw [List.append_nil] at this
   exact this
end Go.Pv


namespace Go.Pv
set_option linter.unusedVariables false
set_option linter.unusedSimpArgs false
open Go Go.RowKit
variable {P : Program} {T : Ty} {nt n0 : Nat}

/-! ### The caller: a range over a function -/
def psOf (nt : Nat) (s : List (Nat × PV)) : List PV := (List.range nt).map (getT s)
theorem psOf_get (nt : Nat) (s : List (Nat × PV)) (t : Nat) : (psOf nt s).getD t .any = if t < nt then getT s t else .any := by
 unfold psOf
 rw [List.getD_eq_getElem?_getD, List.getElem?_map]
 by_cases h : t < nt
 ·rw [List.getElem?_range h, if_pos h]; rfl
 ·rw [List.getElem?_eq_none (by simp; omega), if_neg h]; rfl
theorem psOf_tm {nt : Nat} {s : List (Nat × PV)} (h : s.all (fun p => decide (p.1 < nt)) = true) (t : Nat) : getT s t = .any ∨ getT s t = (psOf nt s).getD t .any := by
 rw [psOf_get]
 by_cases ht : t < nt
 ·rw [if_pos ht]; exact .inr rfl
 ·rcases getT_mem s t with h1 | h1
  ·exact .inl h1
  ·have := List.all_eq_true.1 h _ h1
   simp at this
   exact absurd this ht
theorem on_other : ∀ (e : Eff) (H : Nat → Option Blk) (i : Nat), (∀ p ∈ e, p.1 ≠ i) → e.on H i = H i
 | [], _, _, _ => rfl
 | (j, b) :: e, H, i, h => by
  show Eff.on e (put H j b) i = H i
  rw [on_other e _ i fun p hp => h p (by simp [hp])]
  unfold put
  rw [if_neg]
  have := h (j, b) (by simp)
  first
   | exact this
   | exact fun e => this e.symm
theorem on_agree : ∀ (e : Eff) (H H' : Nat → Option Blk) (id : Nat), H id = H' id → e.on H id = e.on H' id
 | [], _, _, _, h => h
 | (j, b) :: e, H, H', id, h => by
  show Eff.on e (put H j b) id = Eff.on e (put H' j b) id
  refine on_agree e _ _ id ?_
  unfold put
  split
  ·rfl
  ·exact h
theorem dfs_mem {N : Nat} {c : Cx} : ∀ {l : List Deferred}, Dfs N c l → ∀ d ∈ l, ∃ D, d = { target := .collected D, args := #[] } ∧ N ≤ D ∧ c.idle D
 | [], _, d, hd => by cases hd
 | d0 :: ds, h, d, hd => by
  obtain ⟨⟨D, e1, e2, e3, _⟩, h3⟩ := h
  rcases List.mem_cons.1 hd with rfl | hd
  ·exact ⟨D, e1, e2, e3⟩
  ·exact dfs_mem h3 d hd
def Lof (fn : FuncId) (a : Act) (prm : Array Tmp) (assign body : Code) (D : Nat) : Loop := { state := .ready, pending := none, fn, tmps := a.tmps, params := prm, assign, body, defers := D }

theorem swp_rf {Q : Exit → St → Prop} {st : St} {tg : Nat} {prm : Array Tmp} {assign body : Code} (f : FuncId) (caps : List PV) (s : List (Nat × PV)) (H0 : List (Nat × Option Blk)) (n1 : Nat) (r : PV) (e : Eff)
  (hg : getT st.tm tg = .fn f caps) (hs : ∀ p ∈ s, getT st.tm p.1 = p.2) (hH0 : ∀ id, getH st.H id = getH H0 id) (hn1 : st.n < n1) (hei : ∀ p ∈ e, p.1 ≠ st.n)
  (h : ∀ L : Loop, L.state = .ready → L.pending = none → L.params = prm → L.assign = assign → L.body = body → L.tmps.size = nt → HCall P f (.yld st.n :: caps) ((st.n, some ⟨.lp L (psOf nt s), true, 0⟩) :: H0) n1 r e)
  (hk : Q .normal ⟨st.tm, onL e st.H, nxt e (st.n + 1)⟩) : SWp P nt n0 (.rangeFunc (.tmp tg) prm assign body) Q st := fun S B W0 a w hsim => by
 obtain ⟨c, rfl, hH, hok, hfresh, hrep, hsz, hdef, hbel, hS⟩ := hsim
 refine (wpIn_wide (n := 0)).1 (wpIn_rangeFunc fun fn _ => ?_)
 obtain ⟨cv, hcv, hcl, hcaps⟩ : ∃ cv : Array Value, a.eval (.tmp tg) = .func (.func f) #[] cv ∧ caps.length = cv.size ∧ ∀ (i : Nat) q v, caps[i]? = some q → cv[i]? = some v → Rep c false q v := by
  have := hrep tg
  rw [hg] at this
  show ∃ cv : Array Value, a.tmps.getD tg undef = _ ∧ _
  generalize a.tmps.getD tg undef = v at this
  cases this with
  | fn _ _ _ vs h1 h2 => exact ⟨vs, rfl, h1, h2⟩
 let D := c.w.heap.size
 let l := c.w.heap.size + 1
 let L : Loop := Lof fn a prm assign body D
 let w1 : World := (c.w.alloc (.deferred (some []))).alloc (.loop L)
 have hD1 : w1.heap[D]? = some (.deferred (some [])) := (Below.heap_alloc _ _ D (by rw [World.size_alloc]; exact Nat.lt_succ_self _)).trans (World.alloc_heap_new _ _)
 have hl1 : w1.heap[l]? = some (.loop L) := by
  have := World.alloc_heap_new (c.w.alloc (.deferred (some []))) (.loop L)
  rw [World.size_alloc] at this
  exact this
 have hold : ∀ b, b < c.w.heap.size → w1.heap[b]? = c.w.heap[b]? := fun b hb => (Below.heap_alloc _ _ b (by rw [World.size_alloc]; omega)).trans (Below.heap_alloc _ _ b hb)
 have hsz1 : w1.heap.size = c.w.heap.size + 2 := by
  show ((c.w.alloc _).alloc _).heap.size = _
  rw [World.size_alloc, World.size_alloc]
 obtain ⟨⟨fnc, k1, k2, k3⟩, hcall⟩ := h L rfl rfl rfl rfl rfl hsz
 have hbel1 : Below B c.w w1 := ((Below.refl B c.w).alloc hok.base _).alloc (by rw [World.size_alloc]; have := hok.base; omega) _
 have hnA : ¬ c.A st.n := hfresh st.n (Nat.le_refl _)
 let c1 : Cx := { w := w1, loc := fun id => if st.n = id then .pointer (some ⟨l, 0, none⟩) else c.loc id, H := fun id => if st.n = id then some ⟨.lp L (psOf nt s), true, 0⟩ else c.H id, A := fun id => c.A id ∨ id = st.n, ow := fun b => c.ow b ∨ b = D ∨ b = l }
 have h1H : ∀ id blk, st.n ≠ id → c1.H id = some blk → c.H id = some blk := fun id blk hne hb => by
  have hb' : (if st.n = id then some _ else c.H id) = some blk := hb
  rwa [if_neg hne] at hb'
 have h1l : ∀ id, st.n ≠ id → c1.loc id = c.loc id := fun id hne => if_neg hne
 have hnl : c1.loc st.n = .pointer (some ⟨l, 0, none⟩) := if_pos rfl
 have hnH : c1.H st.n = some ⟨.lp L (psOf nt s), true, 0⟩ := if_pos rfl
 have hle1 : c.Le c1 := ⟨fun b h1 h2 => ⟨fun h => by
   rcases h with h | h | h
   ·exact h1 h
   ·have : b = c.w.heap.size := h
    omega
   ·have : b = c.w.heap.size + 1 := h
    omega, by show b < w1.heap.size; omega, fun o => World.cell?_of_block (hold b h2)⟩, fun id h => .inl h, fun id blk hA hb => by
   have hne : st.n ≠ id := fun e' => hnA (by rw [e']; exact hA)
   exact ⟨blk, h1H id blk hne hb, Nat.le_refl _, rfl, rfl, fun _ => h1l id hne⟩⟩
 have hHA : ∀ id blk, c.H id = some blk → st.n ≠ id := fun id blk hb e' => hnA (by rw [e']; exact (hok.ok id blk hb).1)
 have hlt : ∀ id blk g, c.H id = some blk → blkOf (c.loc id) = some g → g < c.w.heap.size := fun id blk g hb hg => ((hok.ok id blk hb).2.lt hg).2
 have hok1 : HeapOk c1 B := by
  refine ⟨fun id blk hb => ?_, fun id blk g hb hg => ?_, fun i1 i2 b1 b2 g h1 h2 g1 g2 => ?_, by show B ≤ w1.heap.size; have := hok.base; omega, fun b hb => ?_⟩
  ·by_cases hne : st.n = id
   ·subst hne
    rw [hnH] at hb
    cases hb
    refine ⟨.inr rfl, ?_⟩
    rw [hnl]
    unfold BlkOk
    rw [if_pos rfl]
    refine ⟨l, [], 0, rfl, by have := hok.base; omega, ⟨hl1, fun t => ?_⟩, rfl, fun k j _ hj => absurd hj (Nat.not_lt_zero _)⟩
    rw [psOf_get]
    split
    ·rcases getT_mem s t with h1 | h1
     ·rw [h1]; exact .any ..
     ·have h2 : getT st.tm t = getT s t := hs _ h1
      rw [← h2]
      exact (hrep t).mono hle1
    ·exact .any ..
   ·have hb' := h1H id blk hne hb
    obtain ⟨q1, q2⟩ := hok.ok id blk hb'
    rw [h1l id hne]
    exact ⟨.inl q1, q2.mono hle1 fun g hg => hold g (hlt id blk g hb' hg)⟩
  ·by_cases hne : st.n = id
   ·subst hne
    rw [hnl] at hg
    simp [blkOf] at hg
    exact .inr (.inr hg.symm)
   ·rw [h1l id hne] at hg
    exact .inl (hok.own id blk g (h1H id blk hne hb) hg)
  ·by_cases e1 : st.n = i1
   ·by_cases e2 : st.n = i2
    ·exact e1.symm.trans e2
    ·subst e1
     rw [hnl] at g1
     rw [h1l i2 e2] at g2
     have := hlt i2 b2 g (h1H i2 b2 e2 h2) g2
     simp [blkOf] at g1
     omega
   ·by_cases e2 : st.n = i2
    ·subst e2
     rw [hnl] at g2
     rw [h1l i1 e1] at g1
     have := hlt i1 b1 g (h1H i1 b1 e1 h1) g1
     simp [blkOf] at g2
     omega
    ·rw [h1l i1 e1] at g1
     rw [h1l i2 e2] at g2
     exact hok.inj i1 i2 b1 b2 g (h1H i1 b1 e1 h1) (h1H i2 b2 e2 h2) g1 g2
  ·show b < w1.heap.size
   rcases hb with h | h | h
   ·have := hok.lt b h; omega
   ·have : b = c.w.heap.size := h
    omega
   ·have : b = c.w.heap.size + 1 := h
    omega
 have honly1 : ∀ b, c.idle b → c1.idle b ∧ c1.w.heap[b]? = c.w.heap[b]? ∧ (c.ow b → c1.ow b) := fun b hb => by
  refine ⟨⟨by show b < w1.heap.size; have := hb.1; omega, fun id blk hbl hg => ?_⟩, hold b hb.1, .inl⟩
  by_cases hne : st.n = id
  ·subst hne
   rw [hnl] at hg
   simp [blkOf] at hg
   have := hb.1
   omega
  ·rw [h1l id hne] at hg
   exact hb.2 id blk (h1H id blk hne hbl) hg
 have hDi : c1.idle D := ⟨by show c.w.heap.size < w1.heap.size; omega, fun id blk hbl hg => by
  by_cases hne : st.n = id
  ·subst hne
   rw [hnl] at hg
   simp [blkOf] at hg
   omega
  ·rw [h1l id hne] at hg
   have := hlt id blk D (h1H id blk hne hbl) hg
   omega⟩
 have hc1H : c1.H = getH ((st.n, some ⟨.lp L (psOf nt s), true, 0⟩) :: H0) := by
  funext id
  show (if st.n = id then _ else c.H id) = (if st.n = id then _ else getH H0 id)
  rw [hH, hH0]
 let vs : Array Value := #[.func (.yield l) #[] #[]] ++ cv
 have hvs : ArgsOk c1 false (.yld st.n :: caps) vs := by
  refine ⟨by simp [vs, hcl]; omega, fun k p v h1 h2 => ?_⟩
  cases k with
  | zero =>
   simp only [List.getElem?_cons_zero, Option.some.injEq] at h1
   subst h1
   have hv : v = .func (.yield l) #[] #[] := by
    have : vs[0]? = some (.func (.yield l) #[] #[]) := by simp [vs, Array.getElem?_append]
    rw [this] at h2
    exact (Option.some.inj h2).symm
   subst hv
   refine .yld _ _ (.inr rfl) ⟨l, rfl⟩ fun blk hb => ?_
   rw [hnH] at hb
   cases hb
   exact ⟨Nat.le_refl _, fun _ => ⟨l, by rw [hnl]; rfl, rfl⟩⟩
  | succ k =>
   have h2' : cv[k]? = some v := by
    have : vs[k + 1]? = cv[k]? := by simp [vs, Array.getElem?_append]
    rw [← this]; exact h2
   exact (hcaps k p v (by simpa using h1) h2').mono hle1
 have hC := hcall c1 B vs hok1 hc1H (fun id hid hA => by
  rcases hA with h | h
  ·exact hfresh id (by omega) h
  ·omega) hvs
 refine ⟨l, [{ target := .collected D, args := #[] }], w1, { target := .fn (.func f) cv, args := #[.func (.yield l) #[] #[]] }, w1, f, vs, w1, run_enterLoop_outer fn a.tmps prm assign body, ?_, fun _ _ => trivial, ?_, fun h => by simp [Fence.wide] at h, ?_⟩
 ·simp only [resolve, hcv, Deferred.ofValue, Sem.run_bind, Sem.run_pure]
  simp [Act.eval]
 ·simp only [invoke, callFunc, Sem.run_bind, Sem.run_pure, Result.andThen_ok, program, Sem.run, k1, k2, k3]
  simp [vs]
 refine (callsIn_wide.2 hC).mono ?_
 rintro en w' ⟨v, c2, rfl, rfl, _, hpost⟩
 -- the record, once the function has returned
 have hn2 : c2.H st.n = some ⟨.lp L (psOf nt s), true, 0⟩ := by
  rw [hpost.H, on_other e _ _ hei]; exact hnH
 obtain ⟨blk, q1, _, _, _, q5⟩ := hpost.le.ids st.n _ (.inr rfl) hn2
 rw [hnH] at q1
 cases q1
 have hloc2 : c2.loc st.n = .pointer (some ⟨l, 0, none⟩) := (q5 rfl).trans hnl
 have hbl : blkOf (c2.loc st.n) = some l := by rw [hloc2]; rfl
 have hl2 : c2.w.heap[l]? = some (.loop L) := by
  have := (hpost.heap.ok st.n _ hn2).2
  unfold BlkOk at this
  rw [if_pos rfl] at this
  obtain ⟨g', us, T', e1, _, e3, _⟩ := this
  rw [hloc2] at e1
  have : l = g' := by simpa using e1
  rw [this]
  exact e3.1
 refine ⟨_, _, run_endLoop hl2 (fun h => by cases h), ?_⟩
 let ol : Obj := .loop { L with state := .exhausted }
 have hli : (drop1 c2 st.n).idle l := ⟨(Array.getElem?_eq_some_iff.1 hl2).1, fun id blk hb hg => (drop1_H hb).1 (hpost.heap.inj st.n id _ blk l hn2 (drop1_H hb).2 hbl hg)⟩
 have hlo : (drop1 c2 st.n).ow l := hpost.heap.own st.n _ l hn2 hbl
 have hle2 : c.Le (turn (drop1 c2 st.n) l ol) := ((hle1.trans hpost.le).trans (drop1_le c2 st.n)).trans (turn_le hlo ol)
 have hdrop : ∀ b, c2.idle b → (drop1 c2 st.n).idle b ∧ (drop1 c2 st.n).w.heap[b]? = c2.w.heap[b]? ∧ (c2.ow b → (drop1 c2 st.n).ow b) := fun b hb => ⟨⟨hb.1, fun id blk h => hb.2 id blk (drop1_H h).2⟩, rfl, fun h => h⟩
 have hDm : Dfs S.c0.w.heap.size (turn (drop1 c2 st.n) l ol) ({ target := .collected D, args := #[] } :: a.defers) := by
  refine turn_dfs ol (c := drop1 c2 st.n) ⟨⟨D, rfl, hS.sz, ?_, ?_, ?_, fun d' hd' ht => ?_⟩, Dfs.to (c := c2) (c' := drop1 c2 st.n) hdrop (Dfs.to (c := c1) (c' := c2) hpost.only (Dfs.to (c := c) (c' := c1) honly1 hdef))⟩ fun d hd ht => ?_
  ·exact (hdrop D (hpost.only D hDi).1).1
  ·exact (hdrop D (hpost.only D hDi).1).2.2 ((hpost.only D hDi).2.2 (.inr (.inl rfl)))
  ·exact (hpost.only D hDi).2.1.trans hD1
  ·obtain ⟨D', e1, e2, e3⟩ := dfs_mem hdef d' hd'
   rw [e1] at ht
   have : D' = D := by simpa using ht
   have := e3.1
   omega
  ·rcases List.mem_cons.1 hd with rfl | hd
   ·have : D = l := by simpa using ht
    omega
   ·obtain ⟨D', e1, e2, e3⟩ := dfs_mem hdef d hd
    rw [e1] at ht
    have : D' = l := by simpa using ht
    have := e3.1
    omega
 have hS1 : Keep S B W0 c1 := ⟨fun b hb => ⟨(hS.s b hb).1, .inl (hS.s b hb).2⟩, hS.le.trans hle1, fun b hb => let ⟨a1, a2, a3⟩ := hS.only b hb; let ⟨b1, b2, b3⟩ := honly1 b a1; ⟨b1, b2.trans a2, fun h => b3 (a3 h)⟩, hS.lt, by have := hS.sz; show _ ≤ w1.heap.size; omega⟩
 have hS2 := hS1.post hpost
 have hS3 : Keep S B W0 (drop1 c2 st.n) := ⟨hS2.s, hS2.le.trans (drop1_le c2 st.n), fun b hb => let ⟨a1, a2, a3⟩ := hS2.only b hb; let ⟨b1, b2, b3⟩ := hdrop b a1; ⟨b1, b2.trans a2, fun h => b3 (a3 h)⟩, hS2.lt, hS2.sz⟩
 refine ⟨_, hk, turn (drop1 c2 st.n) l ol, rfl, ?_, turn_ok hli hlo ol (drop1_ok hpost.heap), fun id hid hA => ?_, fun t => (hrep t).mono hle2, hsz, hDm, ((hbel.trans hbel1).trans hpost.below).trans (turn_below (c := drop1 c2 st.n) (by have := hok.base; omega) ol), turn_keep (by have := hS.sz; omega) hli hlo ol hS3⟩
 ·funext id
  show (if st.n = id then none else c2.H id) = getH (onL e st.H) id
  rw [getH_on]
  by_cases hne : st.n = id
  ·subst hne
   rw [if_pos rfl, on_other e _ _ hei, ← hH]
   cases hcn : c.H st.n with
   | none => rfl
   | some blk => exact absurd rfl (hHA st.n blk hcn)
  ·rw [if_neg hne, hpost.H]
   refine on_agree e _ _ id ?_
   show (if st.n = id then _ else c.H id) = _
   rw [if_neg hne, hH]
 ·have hA2 : c2.A id := hA
  have hge := nxt_ge e (st.n + 1)
  have hid' : nxt e (st.n + 1) ≤ id := hid
  rcases (hpost.A id).1 hA2 with h | h
  ·rcases h with h | h
   ·exact hfresh id (by omega) h
   ·omega
  ·obtain ⟨p, hp, rfl⟩ := List.mem_map.1 h
   have := hge.2 p hp
   omega
end Go.Pv


namespace Go.Pv
set_option linter.unusedVariables false
set_option linter.unusedSimpArgs false
open Go Go.RowKit
variable {P : Program} {T : Ty} {nt n0 : Nat}

/-! ### Rounds that jump out of the loop -/
/-- The record behind a round that jumps. -/
def Lj (L : Loop) (j : Code) : Loop := { L with state := .done, pending := some j }
def jx : Exit → Option Code
 | .ret => some .ret
 | .exit id => some (.exit id)
 | _ => none
/-- A round on these arguments jumps out, and does that to the blocks. -/
def RCallJ (P : Program) (L : Loop) (i : Nat) (ps : List PV) (Tt : TypeId) (args : List PV) (Hr : List (Nat × Option Blk)) (n : Nat) (e : Eff) (j : Code) : Prop :=
 args.length = L.params.size ∧ ∀ (c : Cx) (B g : Nat) (vs : Array Value), HeapOk c B → c.H = getH Hr → (∀ id, n ≤ id → ¬ c.A id) → ArgsOk c false args vs → blkOf (c.loc i) = some g →
  RoundIn (FR none) 0 P g L.fn ((L.params.zip vs).foldl (fun tmps (t, a) => tmps.setIfInBounds t a) L.tmps) L.assign L.body c.w fun en w' => en = .returned (.bool false) ∧ ∃ c', c'.w = w' ∧ Post c c' B ((i, some ⟨.lp (Lj L j) ps, true, Tt⟩) :: e)
def rEndJ (x0 : Exit) (i : Nat) (Hr : List (Nat × Option Blk)) (e : Eff) : Exit → St → Prop := fun x st => x = x0 ∧ RKeep i Hr e st
def rMidJ (x0 : Exit) (P : Program) (ro : Option Nat) (nt n i : Nat) (body : Code) (Hr : List (Nat × Option Blk)) (e : Eff) : Exit → St → Prop := fun x st => x = .normal ∧ SRp P ro nt n body (rEndJ x0 i Hr e) st

theorem rcall_jump {x0 : Exit} {j : Code} (hj : jx x0 = some j) {L : Loop} {i : Nat} {ps : List PV} {Tt : TypeId} {args : List PV} {Hr : List (Nat × Option Blk)} {n : Nat} {e : Eff} (hst : L.state = .ready) (hlen : args.length = L.params.size) (hnt : L.tmps.size = nt)
  {tm0 : List (Nat × PV)} (htm : ∀ t, getT tm0 t = .any ∨ getT tm0 t = ps.getD t .any) (hrec : getH Hr i = some ⟨.lp L ps, true, Tt⟩) (hei : ∀ p ∈ e, p.1 ≠ i)
  (h : ∀ ro, SRp P ro nt n L.assign (rMidJ x0 P ro nt n i L.body Hr e) ⟨tmA nt (L.params.toList.zip args) tm0, (i, none) :: Hr, n⟩) : RCallJ P L i ps Tt args Hr n e j := by
 refine ⟨hlen, fun c B g vs hok hH hfr hargs hg => ?_⟩
 have hHi : c.H i = some ⟨.lp L ps, true, Tt⟩ := by rw [hH]; exact hrec
 obtain ⟨hAi, hbi⟩ := hok.ok i _ hHi
 have hgB := hbi.lt hg
 have how := hok.own i _ g hHi hg
 have hLg : c.w.heap[g]? = some (.loop L) ∧ ∀ t, Rep c false (ps.getD t .any) (L.tmps.getD t undef) := by
  unfold BlkOk at hbi
  rw [if_pos rfl] at hbi
  obtain ⟨g', us, T', e1, e2, e3, e4⟩ := hbi
  rw [e1] at hg
  have : g' = g := by simpa [blkOf] using hg
  subst this
  exact e3
 have hidle : ∀ (H : Nat → Option Blk), (∀ id b, H id = some b → i ≠ id ∧ c.H id = some b) → (∀ id b, H id = some b → blkOf (c.loc id) ≠ some g) := fun H hh id b hb hl => (hh id b hb).1 (hok.inj i id _ b g hHi (hh id b hb).2 hg hl)
 -- the contexts ahead of the assignments, of the body
 have ok0 := drop1_ok (i := i) hok
 have idle0 : (drop1 c i).idle g := ⟨hgB.2, hidle _ fun id b hb => drop1_H hb⟩
 let ob : Obj := .loop { L with state := .busy }
 have hts := tmA_ok (c := drop1 c i) (nt := nt) L.params.toList args vs.toList tm0 L.tmps (by rw [Array.length_toList]; exact hlen.symm) (by rw [hargs.1]; simp) (fun k p v h1 h2 => (hargs.2 k p v h1 (by simpa using h2)).mono (drop1_le c i)) hnt (fun t => by
  rcases htm t with e1 | e1
  ·rw [e1]; exact .any ..
  ·rw [e1]; exact (hLg.2 t).mono (drop1_le c i))
 rw [← foldl_set] at hts
 refine roundIn_of_wpIn (F := FR none) trivial ?_
 have hs0 : Sim (n0 := n) ⟨fun _ => False, drop1 c i⟩ B nt c.w ⟨tmA nt (L.params.toList.zip args) tm0, (i, none) :: Hr, n⟩ { tmps := (L.params.zip vs).foldl (fun tmps (t, a) => tmps.setIfInBounds t a) L.tmps, defers := [] } c.w := by
  refine ⟨drop1 c i, rfl, ?_, ok0, hfr, hts.2, hts.1, trivial, Below.refl _ _, ⟨fun b h => h.elim, .refl _, fun b h => ⟨h, rfl, fun h => h⟩, fun id hA => Nat.lt_of_not_le fun hle => hfr id hle hA, Nat.le_refl _⟩⟩
  funext id
  show (if i = id then none else c.H id) = (if i = id then none else getH Hr id)
  rw [hH]
 refine wpIn_mono (h (some g) _ _ _ _ _ hs0) ?_
 rintro x a1 w1 ⟨st1, ⟨rfl, hbody⟩, c1, rfl, hH1, ok1, hfr1, hrep1, hsz1, hdef1, hbel1, hK1⟩
 obtain ⟨id1, hw1, ho1⟩ := hK1.only g idle0
 have hL1 : c1.w.heap[g]? = some (.loop L) := hw1.trans hLg.1
 have ho1' : c1.ow g := ho1 how
 refine ⟨_, run_beginRound hL1 hst, ?_⟩
 have hKb : Keep (n0 := n) ⟨fun _ => False, turn (drop1 c i) g ob⟩ B c.w (turn c1 g ob) := by
  refine ⟨fun b h => h.elim, ⟨fun b h1 h2 => ?_, hK1.le.all, hK1.le.ids⟩, fun b hb => ?_, hK1.lt, by show ((drop1 c i).w.putObj g ob).heap.size ≤ (c1.w.putObj g ob).heap.size; rw [World.putObj_size, World.putObj_size]; exact hK1.sz⟩
  ·have h2' : b < (drop1 c i).w.heap.size := by
    have : b < ((drop1 c i).w.putObj g ob).heap.size := h2
    rwa [World.putObj_size] at this
   have hne : b ≠ g := fun e' => h1 (by rw [e']; exact how)
   obtain ⟨k1, k2, k3⟩ := hK1.le.stable b h1 h2'
   refine ⟨k1, by show b < (c1.w.putObj g ob).heap.size; rw [World.putObj_size]; exact k2, fun o => ?_⟩
   have e1 : (turn c1 g ob).w.cell? ⟨b, o, none⟩ = c1.w.cell? ⟨b, o, none⟩ := World.cell?_of_block (World.putObj_heap_other hne)
   have e2 : (turn (drop1 c i) g ob).w.cell? ⟨b, o, none⟩ = (drop1 c i).w.cell? ⟨b, o, none⟩ := World.cell?_of_block (World.putObj_heap_other hne)
   rw [e1, e2]
   exact k3 o
  ·have hb' : (drop1 c i).idle b := ⟨by have : b < ((drop1 c i).w.putObj g ob).heap.size := hb.1; rwa [World.putObj_size] at this, hb.2⟩
   obtain ⟨k1, k2, k3⟩ := hK1.only b hb'
   refine ⟨turn_idle ob k1, ?_, k3⟩
   by_cases hne : b = g
   ·subst hne
    exact (World.putObj_heap_same k1.1).trans (World.putObj_heap_same hb'.1).symm
   ·exact (World.putObj_heap_other hne).trans (k2.trans (World.putObj_heap_other hne).symm)
 have hsb : Sim (n0 := n) ⟨fun _ => False, turn (drop1 c i) g ob⟩ B nt c.w st1 a1 (c1.w.putObj g ob) :=
  ⟨turn c1 g ob, rfl, hH1, turn_ok id1 ho1' ob ok1, hfr1, fun t => (hrep1 t).mono (turn_le ho1' ob), hsz1, by
   have hN : (turn (drop1 c i) g ob).w.heap.size = (drop1 c i).w.heap.size := World.putObj_size
   show Dfs (turn (drop1 c i) g ob).w.heap.size _ _
   rw [hN]
   refine turn_dfs ob hdef1 fun d hd ht => ?_
   obtain ⟨D, e1, e2⟩ : ∃ D, d = { target := .collected D, args := #[] } ∧ (drop1 c i).w.heap.size ≤ D := by
    clear hsz1 hrep1
    revert hd hdef1
    generalize a1.defers = l
    intro hdef1
    induction l with
    | nil => intro hd; cases hd
    | cons d0 ds ih =>
     intro hd
     obtain ⟨⟨D, e1, e2, _⟩, h3⟩ := hdef1
     rcases List.mem_cons.1 hd with rfl | hd
     ·exact ⟨D, e1, e2⟩
     ·exact ih h3 hd
   rw [e1] at ht
   have : D = g := by simpa using ht
   have := idle0.1
   omega, hbel1.trans (turn_below hgB.1 ob), hKb⟩
 refine wpIn_mono (hbody _ _ _ _ _ hsb) ?_
 rintro x a2 w2 ⟨st2, ⟨rfl, hni, hkeep⟩, c2, rfl, hH2, ok2, hfr2, hrep2, hsz2, hdef2, hbel2, hK2⟩
 obtain ⟨id2, hw2, ho2⟩ := hK2.only g (turn_idle ob idle0)
 have hL2 : c2.w.heap[g]? = some ob := hw2.trans (World.putObj_heap_same idle0.1)
 have ho2' : c2.ow g := ho2 how
 have hrun := run_endRound (P := P) (some j) hL2
 have hLe : ({ ({ L with state := .busy } : Loop) with state := if (some j).isNone then .ready else .done, pending := some j } : Loop) = Lj L j := rfl
 rw [hLe] at hrun
 have hrun : (Instr.endRound g (some j)).run P c2.w = .ok (.bool false) (c2.w.putObj g (.loop (Lj L j))) := hrun
 suffices hs : ∃ c', c'.w = c2.w.putObj g (.loop (Lj L j)) ∧ Post c c' B ((i, some ⟨.lp (Lj L j) ps, true, Tt⟩) :: e) by
  cases x with
  | ret => cases hj; exact ⟨_, _, hrun, rfl, hs⟩
  | exit id => cases hj; exact ⟨_, _, hrun, rfl, hs⟩
  | _ => cases hj
 have heo : ∀ id, i ≠ id → ∀ H : Nat → Option Blk, Eff.on ((i, some ⟨.lp (Lj L j) ps, true, Tt⟩) :: e) H id = e.on H id := fun id hne H => on_agree e _ _ id (put_ne _ _ hne)
 -- the context behind the round
 have ok3 := turn_ok id2 ho2' (.loop (Lj L j)) ok2
 let c3 : Cx := turn c2 g (.loop (Lj L j))
 let Li : Nat → Bool := fun k => (k != i) && (e.on (getH Hr) k).isSome
 have hk : ∀ id b, i ≠ id → e.on (getH Hr) id = some b → c2.H id = some b ∧ b.inL Li = true := fun id b hne hb => by
  have hm : id ∈ Hr.map (·.1) ++ e.map (·.1) := by
   rcases eff_mem hb with h | h
   ·exact List.mem_append_right _ h
   ·exact List.mem_append_left _ (List.mem_map.2 ⟨_, getH_mem Hr id b h, rfl⟩)
  have := hkeep id hm (Ne.symm hne) b hb
  rw [hH2]
  exact this
 have hA : ∀ id b, e.on (getH Hr) id = some b → c.A id ∨ id ∈ e.map (·.1) := fun id b hb => by
  rcases eff_mem hb with h | h
  ·exact .inr h
  ·rw [← hH] at h; exact .inl (hok.ok id b h).1
 let c4 : Cx := { c3 with H := fun id => if i = id then none else e.on (getH Hr) id, A := fun id => i ≠ id ∧ (c.A id ∨ id ∈ e.map (·.1)) }
 have h4H : ∀ id b, c4.H id = some b → i ≠ id ∧ e.on (getH Hr) id = some b := fun id b hb => by
  have h' : (if i = id then none else e.on (getH Hr) id) = some b := hb
  by_cases e' : i = id
  ·rw [if_pos e'] at h'; cases h'
  ·rw [if_neg e'] at h'; exact ⟨e', h'⟩
 have hcut : CutP Li c3 c4 := ⟨rfl, rfl, rfl, fun id hL _ => by
  simp only [Li, Bool.and_eq_true, bne_iff_ne] at hL
  obtain ⟨b, hb⟩ := Option.isSome_iff_exists.1 hL.2
  exact ⟨Ne.symm hL.1, hA id b hb⟩, fun id b hb => hk id b (h4H id b hb).1 (h4H id b hb).2⟩
 let c5 : Cx := { c4 with H := Eff.on ((i, some ⟨.lp (Lj L j) ps, true, Tt⟩) :: e) c.H, A := fun id => c.A id ∨ id ∈ i :: e.map (·.1), loc := fun id => if i = id then c.loc i else c2.loc id }
 have hEi : Eff.on ((i, some ⟨.lp (Lj L j) ps, true, Tt⟩) :: e) c.H i = some ⟨.lp (Lj L j) ps, true, Tt⟩ := (on_other e _ i hei).trans (put_same _ _ _)
 have hw5 : c5.w.heap[g]? = some (.loop (Lj L j)) := World.putObj_heap_same id2.1
 have h5H : ∀ id b, i ≠ id → c5.H id = some b → c4.H id = some b := fun id b hne hb => by
  have hb' : Eff.on ((i, some ⟨.lp (Lj L j) ps, true, Tt⟩) :: e) c.H id = some b := hb
  rw [heo id hne, hH] at hb'
  show (if i = id then none else e.on (getH Hr) id) = some b
  rw [if_neg hne]; exact hb'
 have h5l : ∀ id, i ≠ id → c5.loc id = c4.loc id := fun id hne => if_neg hne
 have hle45 : c4.Le c5 := ⟨fun b h1 h2 => ⟨h1, h2, fun _ => rfl⟩, fun id h => h.2.imp (fun h => h) (fun h => List.mem_cons_of_mem _ h), fun id b hA4 hb => ⟨b, h5H id b hA4.1 hb, Nat.le_refl _, rfl, rfl, fun _ => h5l id hA4.1⟩⟩
 have hle : c.Le c5 := by
  refine ⟨fun b h1 h2 => ?_, fun id h => .inl h, fun id b' hA1 hb => ?_⟩
  ·have hne : b ≠ g := fun e' => h1 (by rw [e']; exact how)
   have h2' : b < (turn (drop1 c i) g ob).w.heap.size := by show b < ((drop1 c i).w.putObj g ob).heap.size; rw [World.putObj_size]; exact h2
   obtain ⟨k1, k2, k3⟩ := hK2.le.stable b h1 h2'
   refine ⟨k1, by show b < (c2.w.putObj g (.loop (Lj L j))).heap.size; rw [World.putObj_size]; exact k2, fun o => ?_⟩
   have e1 : c5.w.cell? ⟨b, o, none⟩ = c2.w.cell? ⟨b, o, none⟩ := World.cell?_of_block (World.putObj_heap_other hne)
   have e2 : (turn (drop1 c i) g ob).w.cell? ⟨b, o, none⟩ = c.w.cell? ⟨b, o, none⟩ := World.cell?_of_block (World.putObj_heap_other hne)
   rw [e1, ← e2]
   exact k3 o
  ·by_cases hne : i = id
   ·subst hne
    have hb' : Eff.on ((i, some ⟨.lp (Lj L j) ps, true, Tt⟩) :: e) c.H i = some b' := hb
    rw [hEi] at hb'
    cases hb'
    exact ⟨_, hHi, Nat.le_refl _, rfl, rfl, fun _ => if_pos rfl⟩
   ·have h4 := h4H id b' (h5H id b' hne hb)
    obtain ⟨blk, q1, q2, q3, q4, q5⟩ := hK2.le.ids id b' hA1 (hk id b' hne h4.2).1
    exact ⟨blk, (drop1_H q1).2, q2, q3, q4, fun hq => (if_neg hne).trans (q5 hq)⟩
 have hrecg : ∀ id b, i ≠ id → c5.H id = some b → blkOf (c5.loc id) ≠ some g := fun id b hne hb hl => by
  rw [h5l id hne] at hl
  exact id2.2 id b (hk id b hne (h4H id b (h5H id b hne hb)).2).1 hl
 have hheap : HeapOk c5 B := by
  refine ⟨fun id blk hb => ?_, fun id blk g1 hb hg1 => ?_, fun i1 i2 b1 b2 g1 h1 h2 q1 q2 => ?_, ok3.base, ok3.lt⟩
  ·by_cases hne : i = id
   ·subst hne
    have hb' : Eff.on ((i, some ⟨.lp (Lj L j) ps, true, Tt⟩) :: e) c.H i = some blk := hb
    rw [hEi] at hb'
    cases hb'
    refine ⟨.inl hAi, ?_⟩
    have hl : c5.loc i = c.loc i := if_pos rfl
    rw [hl]
    unfold BlkOk at hbi ⊢
    rw [if_pos rfl] at hbi ⊢
    obtain ⟨g', us, T', e1, e2, e3, e4⟩ := hbi
    have hgg : g' = g := by
     rw [e1] at hg
     simpa [blkOf] using hg
    subst hgg
    exact ⟨g', us, T', e1, e2, ⟨hw5, fun t => (e3.2 t).mono hle⟩, e4.1, fun k m _ hm => absurd hm (Nat.not_lt_zero _)⟩
   ·have h4 := h4H id blk (h5H id blk hne hb)
    obtain ⟨h5, h6⟩ := hk id blk hne h4.2
    obtain ⟨h7, h8⟩ := ok3.ok id blk h5
    refine ⟨(hA id blk h4.2).imp (fun h => h) (fun h => List.mem_cons_of_mem _ h), ?_⟩
    have h9 : BlkOk c4 B (c4.loc id) blk := by
     unfold BlkOk at h8 ⊢
     split
     ·rename_i hbox
      rw [if_pos hbox] at h8
      obtain ⟨g', us, T', e1, e2, e3, e4⟩ := h8
      have hlo : blk.cs.inL Li = true := by simpa [Blk.inL, hbox] using h6
      exact ⟨g', us, T', e1, e2, e3.to rfl (fun L' ps he t ht => ht.cutP hcut (lp_inL (by rw [he] at hlo; exact hlo) t)), e4.1, fun k j hi hj => by obtain ⟨v, h6, h7, h8⟩ := e4.2 k j hi hj; exact ⟨v, h6, h7.cutP1 hcut (inL_get hlo k j), h8⟩⟩
     ·rename_i hbox
      rw [if_neg hbox] at h8
      obtain ⟨us, e1, e2⟩ := h8
      exact ⟨us, e1, e2.1, fun k j hi hj => by obtain ⟨v, h6, h7, h8⟩ := e2.2 k j hi hj; exact ⟨v, h6, @Rep.bare c3 c4 (fun b h1 h2 => ⟨h1, h2, fun _ => rfl⟩) true rfl _ _ h7, h8⟩⟩
    rw [h5l id hne]
    exact h9.mono hle45 fun _ _ => rfl
  ·by_cases hne : i = id
   ·subst hne
    have hl : c5.loc i = c.loc i := if_pos rfl
    rw [hl, hg] at hg1
    cases hg1
    exact ho2'
   ·rw [h5l id hne] at hg1
    exact ok3.own id blk g1 (hk id blk hne (h4H id blk (h5H id blk hne hb)).2).1 hg1
  ·by_cases n1 : i = i1
   ·by_cases n2 : i = i2
    ·exact n1.symm.trans n2
    ·subst n1
     have hl : c5.loc i = c.loc i := if_pos rfl
     rw [hl, hg] at q1
     cases q1
     exact absurd q2 (hrecg i2 b2 n2 h2)
   ·by_cases n2 : i = i2
    ·subst n2
     have hl : c5.loc i = c.loc i := if_pos rfl
     rw [hl, hg] at q2
     cases q2
     exact absurd q1 (hrecg i1 b1 n1 h1)
    ·rw [h5l i1 n1] at q1
     rw [h5l i2 n2] at q2
     exact ok3.inj i1 i2 b1 b2 g1 (hk i1 b1 n1 (h4H i1 b1 (h5H i1 b1 n1 h1)).2).1 (hk i2 b2 n2 (h4H i2 b2 (h5H i2 b2 n2 h2)).2).1 q1 q2
 have hgi : ∀ b, c.idle b → b ≠ g := fun b hb e' => hb.2 i _ hHi (by rw [hg, e'])
 have honly : ∀ b, c.idle b → c5.idle b ∧ c5.w.heap[b]? = c.w.heap[b]? ∧ (c.ow b → c5.ow b) := fun b hb => by
  have hne := hgi b hb
  have hb0 : (turn (drop1 c i) g ob).idle b := turn_idle ob ⟨hb.1, fun id blk h => hb.2 id blk (drop1_H h).2⟩
  obtain ⟨k1, k2, k3⟩ := hK2.only b hb0
  refine ⟨⟨by show b < (c2.w.putObj g (.loop (Lj L j))).heap.size; rw [World.putObj_size]; exact k1.1, fun id blk hbl hl => ?_⟩, (World.putObj_heap_other hne).trans (k2.trans (World.putObj_heap_other hne)), k3⟩
  by_cases hn : i = id
  ·subst hn
   have hl' : c5.loc i = c.loc i := if_pos rfl
   rw [hl', hg] at hl
   cases hl
   exact hne rfl
  ·rw [h5l id hn] at hl
   exact k1.2 id blk (hk id blk hn (h4H id blk (h5H id blk hn hbl)).2).1 hl
 refine ⟨c5, rfl, hle, hheap, rfl, fun id => Iff.rfl, hbel2.trans (turn_below hgB.1 _), fun b hb ho => (honly b ⟨Nat.lt_of_lt_of_le hb hok.base, fun id blk h hl => ?_⟩).2.2 ho, honly⟩
 have := ((hok.ok id blk h).2.lt hl).1
 omega

/-- Where yield is called: the round jumps. -/
def YPJ (P : Program) (T : Ty) (nt : Nat) (all rest : List Oper) (oy : Oper) (Q : St → Prop) (st : St) : Prop :=
 ∃ (ty : Nat) (ats : List Nat) (tys : Array TypeId) (i : Nat) (L : Loop) (ps : List PV) (Tt : TypeId) (Hr : List (Nat × Option Blk)) (n : Nat) (e : Eff) (j : Code), oy.guard = none ∧ oy.op = .call { callee := .value (.tmp ty), args := (ats.map Operand.tmp).toArray, argTypes := tys } ∧ getT st.tm ty = .yld i ∧
  getH Hr i = some ⟨.lp L ps, true, Tt⟩ ∧ (∀ id, getH st.H id = getH Hr id) ∧ st.n ≤ n ∧ RCallJ P L i ps Tt (ats.map (getT st.tm)) Hr n e j ∧ runs P T nt all rest ⟨putT nt st.tm oy.dst (.bool false), onL ((i, some ⟨.lp (Lj L j) ps, true, Tt⟩) :: e) st.H, nxt ((i, some ⟨.lp (Lj L j) ps, true, Tt⟩) :: e) st.n⟩ Q
theorem swp_yieldJ (hT : TyOk P T) {Q : Exit → St → Prop} {st : St} {id : Nat} {l : List Oper} (k : Nat) (oy : Oper) (hl : l = l.take k ++ oy :: l.drop (k + 1))
  (h : runs P T nt l (l.take k) st (YPJ P T nt l (l.drop (k + 1)) oy fun st' => Q .normal st')) : SWp P nt n0 (.region id l.toArray false) Q st := fun S B W0 a w hs => by
 refine (wpIn_wide (n := 0)).1 (wpIn_region_list ?_)
 have e : l.toArray.toList = l := rfl
 rw [e]
 have key := listIn_ok (ro := none) (n := 0) hT (S := S) (B := B) (W0 := W0) (ops := l.toArray) (Q := fun e a' w' => ∃ st', Q e st' ∧ Sim S B nt W0 st' a' w') (K := YPJ P T nt l (l.drop (k + 1)) oy fun st' => Q .normal st') (rest := oy :: l.drop (k + 1)) ?_ (l.take k) st a w h hs
 ·rw [← hl] at key
  exact key
 ·clear hs h
  rintro st a w ⟨ty, ats, tys, i, L, ps, Tt, Hr, n, ef0, j, hgd, hop, hyl, hrec, hHr, hn, ⟨hlen, hround⟩, hrest⟩ hs
  obtain ⟨c, rfl, hH, hok, hfresh, hrep, hsz, hdef, hbel, hS⟩ := hs
  generalize hef : ((i, some ⟨.lp (Lj L j) ps, true, Tt⟩) :: ef0 : Eff) = ef at hrest
  unfold wpListIn
  have hw : Region.wanted oy (yielded l.toArray a.tmps) = true := by
   unfold Region.wanted
   rw [hgd]
  rw [hw, if_pos rfl]
  have hHc : c.H = getH Hr := hH.trans (getH_ext hHr)
  have hHi : c.H i = some ⟨.lp L ps, true, Tt⟩ := by rw [hHc]; exact hrec
  obtain ⟨hAi, hbi⟩ := hok.ok i _ hHi
  obtain ⟨g, us, T', hloc, hBg, hlp, _⟩ : ∃ g vs T, c.loc i = .pointer (some ⟨g, 0, none⟩) ∧ B ≤ g ∧ Hb c g T vs (.lp L ps) ∧ Reps c false (.lp L ps) vs := by
   unfold BlkOk at hbi
   rw [if_pos rfl] at hbi
   exact hbi
  have hg : blkOf (c.loc i) = some g := by rw [hloc]; rfl
  have hLg : c.w.heap[g]? = some (.loop L) := hlp.1
  have hyv : a.tmps.getD ty undef = .func (.yield g) #[] #[] := by
   have := hrep ty
   rw [hyl] at this
   generalize a.tmps.getD ty undef = v at this
   cases this with
   | yld _ _ ha hs hk =>
    obtain ⟨_, h2⟩ := hk _ hHi
    obtain ⟨g', e1, e2⟩ := h2 rfl
    rw [hg] at e1
    cases e1
    exact e2
  have hev : a.eval (.tmp ty) = .func (.yield g) #[] #[] := hyv
  let vs : Array Value := (ats.map fun t => a.tmps.getD t undef).toArray
  have hargs : ((ats.map Operand.tmp).toArray.map a.eval) = vs := by
   simp only [vs, List.map_toArray, List.map_map]
   congr 1
  have hvs : vs.size = L.params.size := by
   rw [← hlen]
   simp [vs]
  have hrun : (Oper.semAt none a.eval oy).run P c.w = .ok (.round g L.fn ((L.params.zip vs).foldl (fun tmps (t, a) => tmps.setIfInBounds t a) L.tmps) L.assign L.body) c.w := by
   rw [Oper.semAt_none]
   have := run_yield (P := P) hLg hvs
   simp only [execOp, hop, resolve, hev, hargs, Deferred.ofValue, Sem.run_bind, Sem.run_pure, Result.andThen_ok, invoke]
   simpa using this
  refine ⟨fun _ _ => trivial, ?_⟩
  rw [show (FR none).round = none from rfl, hrun, Oper.uponIn_round]
  refine ⟨fun h => by simp [FR, Fence.wide] at h, ?_⟩
  refine (hround c B g vs hok hHc (fun id hid => hfresh id (by omega)) ⟨by simp [vs], fun k p v h1 h2 => ?_⟩ hg).mono ?_
  ·have h2' : (ats.map fun t => a.tmps.getD t undef)[k]? = some v := by simpa [vs] using h2
   rw [List.getElem?_map] at h1 h2'
   cases hk : ats[k]? with
   | none => rw [hk] at h1; cases h1
   | some t =>
    rw [hk] at h1 h2'
    simp only [Option.map_some, Option.some.injEq] at h1 h2'
    rw [← h1, ← h2']
    exact hrep t
  ·rintro en w' ⟨rfl, c', rfl, hpost⟩
   rw [hef] at hpost
   have hs' : Sim S B nt W0 ⟨putT nt st.tm oy.dst (.bool false), onL ef st.H, nxt ef st.n⟩ (a.put oy.dst (.bool false)) c'.w := by
    refine ⟨c', rfl, by rw [hpost.H, hH, getH_on], hpost.heap, fun id hid hA => ?_, fun t => put_rep (fun t => (hrep t).mono hpost.le) hsz oy.dst (.bool _ _) t, by rw [put_size]; exact hsz, by rw [put_defers]; exact hdef.to hpost.only, hbel.trans hpost.below, hS.post hpost⟩
    have hge := nxt_ge ef st.n
    rcases (hpost.A id).1 hA with h | h
    ·exact hfresh id (by have : nxt ef st.n ≤ id := hid; omega) h
    ·obtain ⟨p, hp, rfl⟩ := List.mem_map.1 h
     have : nxt ef st.n ≤ p.1 := hid
     have := hge.2 p hp
     omega
   have := listIn_ok (ro := none) (n := 0) hT (ops := l.toArray) (Q := fun e a' w' => ∃ st', Q e st' ∧ Sim S B nt W0 st' a' w') (K := fun st' => Q .normal st') (rest := []) (fun st' a' w' hk hs' => ⟨st', hk, hs'⟩) (l.drop (k + 1)) _ _ _ hrest hs'
   rw [List.append_nil] at this
   exact this

theorem swp_rfJ {x0 : Exit} {j : Code} (hj : jx x0 = some j) {Q : Exit → St → Prop} {st : St} {tg : Nat} {prm : Array Tmp} {assign body : Code} (f : FuncId) (caps : List PV) (s : List (Nat × PV)) (H0 : List (Nat × Option Blk)) (n1 : Nat) (r : PV) (e : Eff)
  (hg : getT st.tm tg = .fn f caps) (hs : ∀ p ∈ s, getT st.tm p.1 = p.2) (hH0 : ∀ id, getH st.H id = getH H0 id) (hn1 : st.n < n1) (hei : ∀ p ∈ e, p.1 ≠ st.n)
  (h : ∀ L : Loop, L.state = .ready → L.pending = none → L.params = prm → L.assign = assign → L.body = body → L.tmps.size = nt → HCall P f (.yld st.n :: caps) ((st.n, some ⟨.lp L (psOf nt s), true, 0⟩) :: H0) n1 r ((st.n, some ⟨.lp (Lj L j) (psOf nt s), true, 0⟩) :: e))
  (hk : Q x0 ⟨st.tm, onL e st.H, nxt e (st.n + 1)⟩) : SWp P nt n0 (.rangeFunc (.tmp tg) prm assign body) Q st := fun S B W0 a w hsim => by
 obtain ⟨c, rfl, hH, hok, hfresh, hrep, hsz, hdef, hbel, hS⟩ := hsim
 refine (wpIn_wide (n := 0)).1 (wpIn_rangeFunc fun fn _ => ?_)
 obtain ⟨cv, hcv, hcl, hcaps⟩ : ∃ cv : Array Value, a.eval (.tmp tg) = .func (.func f) #[] cv ∧ caps.length = cv.size ∧ ∀ (i : Nat) q v, caps[i]? = some q → cv[i]? = some v → Rep c false q v := by
  have := hrep tg
  rw [hg] at this
  show ∃ cv : Array Value, a.tmps.getD tg undef = _ ∧ _
  generalize a.tmps.getD tg undef = v at this
  cases this with
  | fn _ _ _ vs h1 h2 => exact ⟨vs, rfl, h1, h2⟩
 let D := c.w.heap.size
 let l := c.w.heap.size + 1
 let L : Loop := Lof fn a prm assign body D
 let w1 : World := (c.w.alloc (.deferred (some []))).alloc (.loop L)
 have hD1 : w1.heap[D]? = some (.deferred (some [])) := (Below.heap_alloc _ _ D (by rw [World.size_alloc]; exact Nat.lt_succ_self _)).trans (World.alloc_heap_new _ _)
 have hl1 : w1.heap[l]? = some (.loop L) := by
  have := World.alloc_heap_new (c.w.alloc (.deferred (some []))) (.loop L)
  rw [World.size_alloc] at this
  exact this
 have hold : ∀ b, b < c.w.heap.size → w1.heap[b]? = c.w.heap[b]? := fun b hb => (Below.heap_alloc _ _ b (by rw [World.size_alloc]; omega)).trans (Below.heap_alloc _ _ b hb)
 have hsz1 : w1.heap.size = c.w.heap.size + 2 := by
  show ((c.w.alloc _).alloc _).heap.size = _
  rw [World.size_alloc, World.size_alloc]
 obtain ⟨⟨fnc, k1, k2, k3⟩, hcall⟩ := h L rfl rfl rfl rfl rfl hsz
 have hbel1 : Below B c.w w1 := ((Below.refl B c.w).alloc hok.base _).alloc (by rw [World.size_alloc]; have := hok.base; omega) _
 have hnA : ¬ c.A st.n := hfresh st.n (Nat.le_refl _)
 let c1 : Cx := { w := w1, loc := fun id => if st.n = id then .pointer (some ⟨l, 0, none⟩) else c.loc id, H := fun id => if st.n = id then some ⟨.lp L (psOf nt s), true, 0⟩ else c.H id, A := fun id => c.A id ∨ id = st.n, ow := fun b => c.ow b ∨ b = D ∨ b = l }
 have h1H : ∀ id blk, st.n ≠ id → c1.H id = some blk → c.H id = some blk := fun id blk hne hb => by
  have hb' : (if st.n = id then some _ else c.H id) = some blk := hb
  rwa [if_neg hne] at hb'
 have h1l : ∀ id, st.n ≠ id → c1.loc id = c.loc id := fun id hne => if_neg hne
 have hnl : c1.loc st.n = .pointer (some ⟨l, 0, none⟩) := if_pos rfl
 have hnH : c1.H st.n = some ⟨.lp L (psOf nt s), true, 0⟩ := if_pos rfl
 have hle1 : c.Le c1 := ⟨fun b h1 h2 => ⟨fun h => by
   rcases h with h | h | h
   ·exact h1 h
   ·have : b = c.w.heap.size := h
    omega
   ·have : b = c.w.heap.size + 1 := h
    omega, by show b < w1.heap.size; omega, fun o => World.cell?_of_block (hold b h2)⟩, fun id h => .inl h, fun id blk hA hb => by
   have hne : st.n ≠ id := fun e' => hnA (by rw [e']; exact hA)
   exact ⟨blk, h1H id blk hne hb, Nat.le_refl _, rfl, rfl, fun _ => h1l id hne⟩⟩
 have hHA : ∀ id blk, c.H id = some blk → st.n ≠ id := fun id blk hb e' => hnA (by rw [e']; exact (hok.ok id blk hb).1)
 have hlt : ∀ id blk g, c.H id = some blk → blkOf (c.loc id) = some g → g < c.w.heap.size := fun id blk g hb hg => ((hok.ok id blk hb).2.lt hg).2
 have hok1 : HeapOk c1 B := by
  refine ⟨fun id blk hb => ?_, fun id blk g hb hg => ?_, fun i1 i2 b1 b2 g h1 h2 g1 g2 => ?_, by show B ≤ w1.heap.size; have := hok.base; omega, fun b hb => ?_⟩
  ·by_cases hne : st.n = id
   ·subst hne
    rw [hnH] at hb
    cases hb
    refine ⟨.inr rfl, ?_⟩
    rw [hnl]
    unfold BlkOk
    rw [if_pos rfl]
    refine ⟨l, [], 0, rfl, by have := hok.base; omega, ⟨hl1, fun t => ?_⟩, rfl, fun k j _ hj => absurd hj (Nat.not_lt_zero _)⟩
    rw [psOf_get]
    split
    ·rcases getT_mem s t with h1 | h1
     ·rw [h1]; exact .any ..
     ·have h2 : getT st.tm t = getT s t := hs _ h1
      rw [← h2]
      exact (hrep t).mono hle1
    ·exact .any ..
   ·have hb' := h1H id blk hne hb
    obtain ⟨q1, q2⟩ := hok.ok id blk hb'
    rw [h1l id hne]
    exact ⟨.inl q1, q2.mono hle1 fun g hg => hold g (hlt id blk g hb' hg)⟩
  ·by_cases hne : st.n = id
   ·subst hne
    rw [hnl] at hg
    simp [blkOf] at hg
    exact .inr (.inr hg.symm)
   ·rw [h1l id hne] at hg
    exact .inl (hok.own id blk g (h1H id blk hne hb) hg)
  ·by_cases e1 : st.n = i1
   ·by_cases e2 : st.n = i2
    ·exact e1.symm.trans e2
    ·subst e1
     rw [hnl] at g1
     rw [h1l i2 e2] at g2
     have := hlt i2 b2 g (h1H i2 b2 e2 h2) g2
     simp [blkOf] at g1
     omega
   ·by_cases e2 : st.n = i2
    ·subst e2
     rw [hnl] at g2
     rw [h1l i1 e1] at g1
     have := hlt i1 b1 g (h1H i1 b1 e1 h1) g1
     simp [blkOf] at g2
     omega
    ·rw [h1l i1 e1] at g1
     rw [h1l i2 e2] at g2
     exact hok.inj i1 i2 b1 b2 g (h1H i1 b1 e1 h1) (h1H i2 b2 e2 h2) g1 g2
  ·show b < w1.heap.size
   rcases hb with h | h | h
   ·have := hok.lt b h; omega
   ·have : b = c.w.heap.size := h
    omega
   ·have : b = c.w.heap.size + 1 := h
    omega
 have honly1 : ∀ b, c.idle b → c1.idle b ∧ c1.w.heap[b]? = c.w.heap[b]? ∧ (c.ow b → c1.ow b) := fun b hb => by
  refine ⟨⟨by show b < w1.heap.size; have := hb.1; omega, fun id blk hbl hg => ?_⟩, hold b hb.1, .inl⟩
  by_cases hne : st.n = id
  ·subst hne
   rw [hnl] at hg
   simp [blkOf] at hg
   have := hb.1
   omega
  ·rw [h1l id hne] at hg
   exact hb.2 id blk (h1H id blk hne hbl) hg
 have hDi : c1.idle D := ⟨by show c.w.heap.size < w1.heap.size; omega, fun id blk hbl hg => by
  by_cases hne : st.n = id
  ·subst hne
   rw [hnl] at hg
   simp [blkOf] at hg
   omega
  ·rw [h1l id hne] at hg
   have := hlt id blk D (h1H id blk hne hbl) hg
   omega⟩
 have hc1H : c1.H = getH ((st.n, some ⟨.lp L (psOf nt s), true, 0⟩) :: H0) := by
  funext id
  show (if st.n = id then _ else c.H id) = (if st.n = id then _ else getH H0 id)
  rw [hH, hH0]
 let vs : Array Value := #[.func (.yield l) #[] #[]] ++ cv
 have hvs : ArgsOk c1 false (.yld st.n :: caps) vs := by
  refine ⟨by simp [vs, hcl]; omega, fun k p v h1 h2 => ?_⟩
  cases k with
  | zero =>
   simp only [List.getElem?_cons_zero, Option.some.injEq] at h1
   subst h1
   have hv : v = .func (.yield l) #[] #[] := by
    have : vs[0]? = some (.func (.yield l) #[] #[]) := by simp [vs, Array.getElem?_append]
    rw [this] at h2
    exact (Option.some.inj h2).symm
   subst hv
   refine .yld _ _ (.inr rfl) ⟨l, rfl⟩ fun blk hb => ?_
   rw [hnH] at hb
   cases hb
   exact ⟨Nat.le_refl _, fun _ => ⟨l, by rw [hnl]; rfl, rfl⟩⟩
  | succ k =>
   have h2' : cv[k]? = some v := by
    have : vs[k + 1]? = cv[k]? := by simp [vs, Array.getElem?_append]
    rw [← this]; exact h2
   exact (hcaps k p v (by simpa using h1) h2').mono hle1
 have hC := hcall c1 B vs hok1 hc1H (fun id hid hA => by
  rcases hA with h | h
  ·exact hfresh id (by omega) h
  ·omega) hvs
 refine ⟨l, [{ target := .collected D, args := #[] }], w1, { target := .fn (.func f) cv, args := #[.func (.yield l) #[] #[]] }, w1, f, vs, w1, run_enterLoop_outer fn a.tmps prm assign body, ?_, fun _ _ => trivial, ?_, fun h => by simp [Fence.wide] at h, ?_⟩
 ·simp only [resolve, hcv, Deferred.ofValue, Sem.run_bind, Sem.run_pure]
  simp [Act.eval]
 ·simp only [invoke, callFunc, Sem.run_bind, Sem.run_pure, Result.andThen_ok, program, Sem.run, k1, k2, k3]
  simp [vs]
 refine (callsIn_wide.2 hC).mono ?_
 rintro en w' ⟨v, c2, rfl, rfl, _, hpost⟩
 -- the record, once the function has returned
 have hn2 : c2.H st.n = some ⟨.lp (Lj L j) (psOf nt s), true, 0⟩ := by
  rw [hpost.H]; exact (on_other e _ _ hei).trans (put_same _ _ _)
 obtain ⟨blk, q1, _, _, _, q5⟩ := hpost.le.ids st.n _ (.inr rfl) hn2
 rw [hnH] at q1
 cases q1
 have hloc2 : c2.loc st.n = .pointer (some ⟨l, 0, none⟩) := (q5 rfl).trans hnl
 have hbl : blkOf (c2.loc st.n) = some l := by rw [hloc2]; rfl
 have hl2 : c2.w.heap[l]? = some (.loop (Lj L j)) := by
  have := (hpost.heap.ok st.n _ hn2).2
  unfold BlkOk at this
  rw [if_pos rfl] at this
  obtain ⟨g', us, T', e1, _, e3, _⟩ := this
  rw [hloc2] at e1
  have : l = g' := by simpa using e1
  rw [this]
  exact e3.1
 refine ⟨_, _, run_endLoop hl2 (fun h => by cases h), ?_⟩
 let ol : Obj := .loop { Lj L j with state := .exhausted }
 have hli : (drop1 c2 st.n).idle l := ⟨(Array.getElem?_eq_some_iff.1 hl2).1, fun id blk hb hg => (drop1_H hb).1 (hpost.heap.inj st.n id _ blk l hn2 (drop1_H hb).2 hbl hg)⟩
 have hlo : (drop1 c2 st.n).ow l := hpost.heap.own st.n _ l hn2 hbl
 have hle2 : c.Le (turn (drop1 c2 st.n) l ol) := ((hle1.trans hpost.le).trans (drop1_le c2 st.n)).trans (turn_le hlo ol)
 have hdrop : ∀ b, c2.idle b → (drop1 c2 st.n).idle b ∧ (drop1 c2 st.n).w.heap[b]? = c2.w.heap[b]? ∧ (c2.ow b → (drop1 c2 st.n).ow b) := fun b hb => ⟨⟨hb.1, fun id blk h => hb.2 id blk (drop1_H h).2⟩, rfl, fun h => h⟩
 have hDm : Dfs S.c0.w.heap.size (turn (drop1 c2 st.n) l ol) ({ target := .collected D, args := #[] } :: a.defers) := by
  refine turn_dfs ol (c := drop1 c2 st.n) ⟨⟨D, rfl, hS.sz, ?_, ?_, ?_, fun d' hd' ht => ?_⟩, Dfs.to (c := c2) (c' := drop1 c2 st.n) hdrop (Dfs.to (c := c1) (c' := c2) hpost.only (Dfs.to (c := c) (c' := c1) honly1 hdef))⟩ fun d hd ht => ?_
  ·exact (hdrop D (hpost.only D hDi).1).1
  ·exact (hdrop D (hpost.only D hDi).1).2.2 ((hpost.only D hDi).2.2 (.inr (.inl rfl)))
  ·exact (hpost.only D hDi).2.1.trans hD1
  ·obtain ⟨D', e1, e2, e3⟩ := dfs_mem hdef d' hd'
   rw [e1] at ht
   have : D' = D := by simpa using ht
   have := e3.1
   omega
  ·rcases List.mem_cons.1 hd with rfl | hd
   ·have : D = l := by simpa using ht
    omega
   ·obtain ⟨D', e1, e2, e3⟩ := dfs_mem hdef d hd
    rw [e1] at ht
    have : D' = l := by simpa using ht
    have := e3.1
    omega
 have hS1 : Keep S B W0 c1 := ⟨fun b hb => ⟨(hS.s b hb).1, .inl (hS.s b hb).2⟩, hS.le.trans hle1, fun b hb => let ⟨a1, a2, a3⟩ := hS.only b hb; let ⟨b1, b2, b3⟩ := honly1 b a1; ⟨b1, b2.trans a2, fun h => b3 (a3 h)⟩, hS.lt, by have := hS.sz; show _ ≤ w1.heap.size; omega⟩
 have hS2 := hS1.post hpost
 have hS3 : Keep S B W0 (drop1 c2 st.n) := ⟨hS2.s, hS2.le.trans (drop1_le c2 st.n), fun b hb => let ⟨a1, a2, a3⟩ := hS2.only b hb; let ⟨b1, b2, b3⟩ := hdrop b a1; ⟨b1, b2.trans a2, fun h => b3 (a3 h)⟩, hS2.lt, hS2.sz⟩
 have hfin : ∀ Q' : Exit → Act → World → Prop, Q' x0 { a with defers := [{ target := .collected D, args := #[] }] ++ a.defers } (c2.w.putObj l ol) → j.wpIn Fence.wide 0 P Q' { a with defers := [{ target := .collected D, args := #[] }] ++ a.defers } (c2.w.putObj l ol) := fun Q' h => by
  cases x0 with
  | ret => cases hj; exact wpIn_ret h
  | exit id => cases hj; exact wpIn_exit h
  | _ => cases hj
 refine hfin _ ?_
 refine ⟨_, hk, turn (drop1 c2 st.n) l ol, rfl, ?_, turn_ok hli hlo ol (drop1_ok hpost.heap), fun id hid hA => ?_, fun t => (hrep t).mono hle2, hsz, hDm, ((hbel.trans hbel1).trans hpost.below).trans (turn_below (c := drop1 c2 st.n) (by have := hok.base; omega) ol), turn_keep (by have := hS.sz; omega) hli hlo ol hS3⟩
 ·funext id
  show (if st.n = id then none else c2.H id) = getH (onL e st.H) id
  rw [getH_on]
  by_cases hne : st.n = id
  ·subst hne
   rw [if_pos rfl, on_other e _ _ hei, ← hH]
   cases hcn : c.H st.n with
   | none => rfl
   | some blk => exact absurd rfl (hHA st.n blk hcn)
  ·rw [if_neg hne, hpost.H]
   refine on_agree e _ _ id ((put_ne _ _ hne).trans ?_)
   show (if st.n = id then _ else c.H id) = _
   rw [if_neg hne, hH]
 ·have hA2 : c2.A id := hA
  have hge := nxt_ge e (st.n + 1)
  have hid' : nxt e (st.n + 1) ≤ id := hid
  rcases (hpost.A id).1 hA2 with h | h
  ·rcases h with h | h
   ·exact hfresh id (by omega) h
   ·omega
  ·obtain ⟨p, hp, rfl⟩ := List.mem_map.1 h
   rcases List.mem_cons.1 hp with rfl | hp
   ·have : nxt e (st.n + 1) ≤ st.n := hid'
    omega
   ·have := hge.2 p hp
    omega
theorem srp_draw {ro : Option Nat} (hT : TyOk P T) (hP : P.follows .mixedOrders = true) {Q : Exit → St → Prop} {st : St} {id : Nat} {l : List Oper} {ms : List Nat} (hm : (chkM ms l 0 && chkT l ms l 0) = true)
  (h : runD P T nt l l st.n st.tm st.H [] fun fp tm H n => (chkH ms fp.reverse 0 && chkE ms st.n l.length fp.reverse 0) = true ∧ Q .normal ⟨tm, H, n⟩) : SRp P ro nt n0 (.region id l.toArray true) Q st := fun S B W0 a w hs => by
 refine wpIn_region_any (n := 0) hP ?_
 have hs := sim_drew (d := w.drawn + 1) hs
 generalize { w with drawn := w.drawn + 1 } = w at hs
 rw [Bool.and_eq_true] at hm
 obtain ⟨rs, tm', H', hlen, ⟨hh, hq⟩, hch⟩ := runD_chain _ _ _ _ _ h
 rw [Bool.and_eq_true] at hh
 simp only [List.append_nil, List.reverse_reverse] at hh
 have hC := clo_of hm.1
 have hfp : ∀ i, i < l.length → (rs.map Rec.fp)[i]? = some (rs.getD i default).fp := fun i hi => by
  have : rs[i]? = some rs[i] := List.getElem?_eq_getElem (by omega)
  rw [List.getElem?_map, List.getD_eq_getElem?_getD, this]; rfl
 obtain ⟨c, rfl, hH, hok, hfresh, hrep, hsz, hdef, hbel, hS⟩ := hs
 have hany := chain_any hC (recs := rs) (n0 := st.n) (P := P) (T := T) (nt := nt) (Qf := fun t h => t = getT tm' ∧ h = getH H') (fun i oi j oj hi hj hij hno => by
  have li := (List.getElem?_eq_some_iff.1 hi).1
  have lj := (List.getElem?_eq_some_iff.1 hj).1
  obtain ⟨t1, t2, t3⟩ := chkT_at hm.2 i oi j oj hi hj hij (by rw [Nat.zero_add, Nat.zero_add]; exact hno)
  obtain ⟨d1, d2, d3⟩ := chkH_at hh.1 i _ j _ (hfp i li) (hfp j lj) hij (by rw [Nat.zero_add, Nat.zero_add]; exact hno)
  refine ⟨t1, t2, t3, fun p hp => ⟨disj_at d1 p.1 (List.mem_map.2 ⟨p, hp, rfl⟩), fun q hq e => ?_⟩, fun q hq => disj_at d3 q.1 (List.mem_map.2 ⟨q, hq, rfl⟩)⟩
  exact disj_at d2 p.1 (List.mem_map.2 ⟨p, hp, rfl⟩) (e ▸ List.mem_map.2 ⟨q, hq, rfl⟩)) l 0 rs (getT st.tm) (getH st.H) (Array.replicate l.length false) rfl rfl (by omega) ⟨by simp, fun j hj => by simp [hj]⟩ hch
 refine anyA_soundW hT hC (W := fun f listed a w => wpAnyIn (FR ro) 0 P .any l.toArray (fun e a' w' => ∃ st', Q e st' ∧ Sim S B nt W0 st' a' w') f listed a w) (Qw := fun e a' w' => ∃ st', Q e st' ∧ Sim S B nt W0 st' a' w') (Q := fun e a' w' => ∃ st', Q e st' ∧ Sim S B nt W0 st' a' w') (fun listed a w h1 h2 => ⟨h1, h2⟩) (fun f listed a w h1 h2 => ⟨h1, fun i hi => ?_⟩) (n0 := st.n) (recs := fun i => rs.getD i default) (Qf := fun t h => t = getT tm' ∧ h = getH H') (S := S) (B := B) (W0 := W0) (nt := nt) (fun i hi p hp => ?_) (fun tm H c a hqf hcH hok hf hrep hsz hdef hbel hS => ?_) _ _ _ _ a c hany (fun j o ho hl => ?_) hH hok (fun k hk _ q hq => hfresh _ (by omega)) (fun id hid => hfresh id (by omega)) hrep hsz hdef hbel hS
 ·obtain ⟨_, o, ho, _⟩ := mem_ready.1 hi
  obtain ⟨k1, k2⟩ := h2 i hi o ho
  unfold wpOpIn
  rw [ho]
  show if _ then _ else _
  split
  ·rename_i hw
   exact op_in (k1 hw).1 (k1 hw).2
  ·rename_i hw
   exact ⟨fun _ _ => trivial, k2 (by simpa using hw)⟩
 ·have hi' : i < l.length := by simpa using hi
  have hsz' : l.toArray.size = l.length := by simp
  rw [hsz']
  have := chkE_at hh.2 i _ (hfp i hi') p.1 (List.mem_map.2 ⟨p, hp, rfl⟩)
  rw [Nat.zero_add] at this
  refine ⟨by omega, fun k hk hki e e' => ?_⟩
  rcases this with h | h | ⟨_, h⟩
  ·omega
  ·omega
  ·rw [show (p.1 - st.n) / 8 = k by omega] at h
   exact h
 ·obtain ⟨rfl, rfl⟩ := hqf
  exact ⟨_, hq, c, rfl, hcH, hok, fun id hid => hf id (by simpa using hid), hrep, hsz, hdef, hbel, hS⟩
 ·intro e he hb
  exfalso
  rw [Array.getD_eq_getD_getElem?] at hl
  by_cases hj : j < l.length
  ·simp [hj] at hl
  ·simp [hj] at hl

end Go.Pv


namespace Go.Pv
set_option linter.unusedVariables false
set_option linter.unusedSimpArgs false
open Go
theorem w0 : IntKind.i64.wrap 0 = 0 := by decide
theorem w1 : IntKind.i64.wrap 1 = 1 := by decide
theorem w2 : IntKind.i64.wrap 2 = 2 := by decide
theorem wm1 : IntKind.i64.wrap (-1) = -1 := by decide
theorem w64 {n : Int} (h : -9223372036854775808 ≤ n ∧ n ≤ 9223372036854775807) : IntKind.i64.wrap n = n := by rw [IntKind.wrap_i64]; omega
theorem wnext {i : Nat} (h : i < 9223372036854775807) : IntKind.i64.wrap ((i : Int) + 1) = ((i + 1 : Nat) : Int) := by rw [IntKind.wrap_i64]; omega
theorem take_next {xs ys : List Int} {i : Nat} (h1 : i < xs.length) (h2 : xs.length = ys.length) (h3 : xs.take i = ys.take i) (h4 : xs[i]?.getD 0 = ys[i]?.getD 0) : xs.take (i + 1) = ys.take (i + 1) := by
 rw [List.take_add_one, List.take_add_one, h3]
 rw [List.getElem?_eq_getElem h1, List.getElem?_eq_getElem (by omega : i < ys.length)] at h4 ⊢
 simp only [Option.getD_some] at h4
 rw [h4]
end Go.Pv
namespace Go.Pv
set_option linter.unusedVariables false
set_option linter.unusedSimpArgs false
open Go
theorem minb (n : Nat) : min n IntKind.i64.bits = min n 64 := rfl
end Go.Pv
namespace Go.Pv
set_option linter.unusedVariables false
set_option linter.unusedSimpArgs false
open Go
theorem and1b (z : Int) : (((z % 2 ^ IntKind.i64.bits).toNat &&& 1 % 2 ^ IntKind.i64.bits : Nat) : Int) = z % 2 := by
 show (((z % 2 ^ 64).toNat &&& 1 % 2 ^ 64 : Nat) : Int) = _
 rw [show (1 % 2 ^ 64 : Nat) = 1 by decide, Nat.and_one_is_mod]
 omega
end Go.Pv
namespace Go.Pv
set_option linter.unusedVariables false
set_option linter.unusedSimpArgs false
open Go
def self1 : PV → Bool
 | .bool _ | .int _ _ | .str _ | .nilf | .ro _ | .rop _ _ _ | .fn _ [] => true
 | _ => false
theorem frz_self {H : Nat → Option Blk} {p : PV} (h : self1 p = true) (K : PV → List Nat → Prop) : frz H p K = K p [] := by
 cases p <;> simp [self1] at h <;> try rfl
 case fn f caps => cases caps <;> simp [self1] at h; rfl
theorem frzL_self {H : Nat → Option Blk} : ∀ {ps : List PV} (K : List PV → List Nat → Prop), ps.all self1 = true → frzL H ps K = K ps []
 | [], K, h => rfl
 | p :: ps, K, h => by
  simp only [List.all_cons, Bool.and_eq_true] at h
  simp only [frzL]
  have := frz_self (H := H) h.1
  have h1 : ∀ K, frz1 H p K = K p [] := fun K => by
   have h2 := this K
   cases p <;> first | (simp [self1] at h; done) | exact h2 | skip
   rename_i f caps
   cases caps with
   | nil => rfl
   | cons => simp [self1] at h
  rw [h1, frzL_self _ h.2]
  rfl
end Go.Pv
namespace Go.Pv
theorem ifmax (a b : Int) : (if a < b then b else a) = max a b := by omega
theorem ifmin (a b : Int) : (if b < a then b else a) = min a b := by omega
end Go.Pv
namespace Go.Pv
theorem lt_step {i : Nat} {q : Nat → Prop} (h : ∀ j < i, q j) (h2 : q i) : ∀ j < i + 1, q j := fun j hj => by
 rcases Nat.lt_succ_iff_lt_or_eq.1 hj with h3 | h3
 ·exact h j h3
 ·subst h3; exact h2
end Go.Pv


namespace Go.Pv
set_option linter.unusedVariables false
open Go Go.RowKit
/-! ### From a contract to a law's frame -/
/-- What the frame of a law's proof tells of a slice of integers that came in. -/
def IsRow (k : IntKind) (w : World) (a : Option Addr) (len cap : Nat) (zs : List Int) : Prop :=
 (a = none ∧ len = 0 ∧ cap = 0 ∧ zs = []) ∨
 ∃ x, a = some x ∧ len ≤ cap ∧ cap ≤ maxLen ∧ zs.length = cap ∧ (∀ i, i < zs.length → w.cell? (x.add i) = some (.int k (zs.getD i 0))) ∧ ∀ n ∈ zs, (Lit.int k n).wf = true
def none1 : Nat → Prop := fun _ => False
theorem IsRow.len {k : IntKind} {w : World} {a : Option Addr} {len cap : Nat} {zs : List Int} (h : IsRow k w a len cap zs) : (zs.take len).length ≤ 9223372036854775807 := by
 rcases h with ⟨rfl, rfl, rfl, rfl⟩ | ⟨x, rfl, hl, hm, hz, hc, hw⟩
 ·simp
 ·rw [List.length_take]
  have : maxLen ≤ 9223372036854775807 := by decide
  omega
theorem IsRow.wf {k : IntKind} {w : World} {a : Option Addr} {len cap : Nat} {zs : List Int} (h : IsRow k w a len cap zs) : ∀ n ∈ zs.take len, (Lit.int k n).wf = true := by
 intro n hn
 have hn := List.mem_of_mem_take hn
 rcases h with ⟨rfl, rfl, rfl, rfl⟩ | ⟨x, rfl, hl, _, hz, hc, hw⟩
 ·cases hn
 ·exact hw n hn
theorem argsOk_of {c : Cx} {q : Bool} {ps : List PV} {vs : List Value} (h : RepL c q ps vs) : ArgsOk c q ps vs.toArray := ⟨by simpa using h.1, fun i p v h1 h2 => h.2 i p v h1 (by simpa using h2)⟩
theorem law_of {P : Program} {f : FuncId} {ps : List PV} (h : PCall P f ps (.bool true)) {w : World} {vs : List Value} (ha : RepL (see none1 w) true ps vs) : Calls P f vs.toArray w fun e w' => e = .returned (.bool true) ∧ Below w.heap.size w w' := by
 refine (h.2 w vs.toArray none1 (fun b h => h.elim) (argsOk_of ha)).mono ?_
 rintro e w' ⟨v, rfl, hr, hb⟩
 cases hr
 exact ⟨rfl, hb⟩
end Go.Pv


namespace Go.Pv
set_option linter.unusedVariables false
set_option linter.unusedSimpArgs false
open Go Go.RowKit
/-! ### Arguments of any type, as the frame of a law tells of them -/
def ShF (S : TypeId → List PV → Prop) : List (TypeId × Nat) → List PV → Prop
 | [], ps => ps = []
 | p :: r, ps => ∃ a b, ps = a ++ b ∧ S p.1 a ∧ ShF S r b
/-- The cells of a value of the type. -/
def ShC (T : Ty) : Nat → TypeId → List PV → Prop
 | 0, _, _ => False
 | n + 1, t, ps => match T t with
  | none => False
  | some ti => match ti.k with
   | .int k => ∃ z, ps = [.int k z] ∧ (Lit.int k z).wf = true
   | .bool => ∃ b, ps = [.bool b]
   | .str => ∃ s : ByteArray, ps = [.str s] ∧ s.size ≤ maxLen
   | .slice e => ∃ cs, ps = [.ro cs] ∧ cs.len ≤ maxLen ∧ (match T e with
    | none => False
    | some te => match te.k with
     | .int k => ∃ xs, cs = .ints k xs ∧ ∀ x ∈ xs, (Lit.int k x).wf = true
     | _ => ∃ rs, cs = .rows te.sz rs ∧ ∀ r ∈ rs, ShC T n e r)
   | .struct fs => ShF (ShC T n) fs ps
   | .arr m e => match T e with
    | none => False
    | some te => ShF (ShC T n) ((List.range m).map fun i => (e, i * te.sz)) ps
   | .other => False
def contig (T : Ty) (sz : Nat) : Nat → List (TypeId × Nat) → Bool
 | o, [] => o == sz
 | o, p :: r => match T p.1 with
  | some tf => p.2 == o && contig T sz (o + tf.sz) r
  | none => false
def okT (T : Ty) : Nat → TypeId → Bool
 | 0, _ => false
 | n + 1, t => match T t with
  | none => false
  | some ti => match ti.k with
   | .int _ | .bool | .str => true
   | .slice e => (match T e with | none => false | some te => decide (0 < te.sz)) && okT T n e
   | .struct fs => contig T ti.sz 0 fs && fs.all fun p => okT T n p.1
   | .arr m e => (match T e with | none => false | some te => contig T ti.sz 0 ((List.range m).map fun i => (e, i * te.sz))) && okT T n e
   | .other => false

section
variable {P : Program} {T : Ty} {H : Type} {enc : TypeId × Value → H} {w : World} {sp : Nat → Bool} {held : Bool}

theorem cellsOf_sz (hT : TyOk P T) {t : TypeId} {ti : TI} (ht : T t = some ti) : P.cellsOf t = ti.sz := by
 obtain ⟨i, hi, hs, _⟩ := hT.info t ti ht
 simp [Program.cellsOf, hi, hs]

def Got (w : World) (S : List PV → Prop) (cs : List Value) : Prop := ∃ ps, S ps ∧ RepL (see none1 w) true ps cs ∧ ps.all PV.one = true

theorem shF_got (hT : TyOk P T) {S : TypeId → List PV → Prop} {sz : Nat} {cs : List Value} (hl : cs.length = sz) : ∀ (fs : List (TypeId × Nat)) (o : Nat), contig T sz o fs = true → o ≤ sz →
  (∀ p ∈ fs, ∀ tf, T p.1 = some tf → Got w (S p.1) ((cs.drop p.2).take tf.sz)) → Got w (ShF S fs) (cs.drop o)
 | [], o, hc, ho, _ => by
  simp only [contig, beq_iff_eq] at hc
  have : cs.drop o = [] := List.drop_eq_nil_of_le (by omega)
  rw [this]
  exact ⟨[], rfl, .nil, rfl⟩
 | p :: r, o, hc, ho, h => by
  simp only [contig] at hc
  cases ht : T p.1 with
  | none => rw [ht] at hc; cases hc
  | some tf =>
   rw [ht] at hc
   simp only [Bool.and_eq_true, beq_iff_eq] at hc
   obtain ⟨a, h1, h2, h3⟩ := h p (by simp) tf ht
   rw [hc.1] at h2
   have ho' : o + tf.sz ≤ sz := by
    have : ∀ (fs : List (TypeId × Nat)) (o : Nat), contig T sz o fs = true → o ≤ sz := by
     intro fs
     induction fs with
     | nil => intro o h; simp only [contig, beq_iff_eq] at h; omega
     | cons q fs ih =>
      intro o h
      simp only [contig] at h
      split at h
      ·simp only [Bool.and_eq_true] at h
       have := ih _ h.2
       omega
      ·cases h
    exact this r _ hc.2
   obtain ⟨b, k1, k2, k3⟩ := shF_got hT hl r (o + tf.sz) hc.2 ho' fun q hq => h q (List.mem_cons_of_mem _ hq)
   refine ⟨a ++ b, ⟨a, b, rfl, h1, k1⟩, ?_, by rw [List.all_append, h3, k3]; rfl⟩
   have := h2.app k2
   rwa [← List.drop_drop, List.take_append_drop] at this

theorem ro_mk {c : Cx} {q : Bool} {cs : Cells} {b off cp : Nat} (hat : At c true cs b off) (hb : ¬ c.ow b) (hlt : b < c.w.heap.size) (hcp : cs.len ≤ cp) (h0 : 0 < cs.len) : Rep c q (.ro cs) (.slice (some ⟨b, off, none⟩) cs.len cp) := by
 have := ro_of_at c hat hb hlt q 0 cs.len (by omega) hcp h0
 have e : cs.sub 0 cs.len = cs := by cases cs <;> simp [Cells.sub, Cells.len]
 rwa [e, Nat.zero_mul, Nat.add_zero] at this

theorem open_cells (hT : TyOk P T) : ∀ (n : Nat) (t : TypeId) (fuel : Nat) (cs : List Value) (x : DataW H × List MemPlace), okT T n t = true → DataW.trod enc P w 0 sp held fuel t cs = some x → Got w (ShC T n t) cs
 | 0, _, _, _, _, h, _ => by cases h
 | n + 1, t, fuel, cs, x, h, hx => by
  have ih := open_cells hT n
  unfold okT at h
  cases ht : T t with
  | none => rw [ht] at h; cases h
  | some ti =>
   rw [ht] at h
   simp only at h
   unfold Got ShC
   rw [ht]
   dsimp only
   cases hk : ti.k with
   | int k =>
    obtain ⟨z, rfl, _, hw⟩ := DataW.trod_int (hT.int t ti k ht hk).1 hx
    exact ⟨[.int k z], ⟨z, rfl, hw⟩, .cons (.int ..) .nil, rfl⟩
   | bool =>
    obtain ⟨b, rfl, _⟩ := DataW.trod_bool (hT.bool t ti ht hk).1 hx
    exact ⟨[.bool b], ⟨b, rfl⟩, .cons (.bool ..) .nil, rfl⟩
   | str =>
    obtain ⟨s, rfl, _, hs⟩ := DataW.trod_string (hT.str t ti ht hk).1 hx
    exact ⟨[.str s], ⟨s, rfl, hs⟩, .cons (.str ..) .nil, rfl⟩
   | other => rw [hk] at h; cases h
   | struct fs =>
    rw [hk] at h
    simp only [Bool.and_eq_true] at h
    obtain ⟨F, hF, hm, _⟩ := hT.struct t ti fs ht hk
    obtain ⟨xs, m, _, _, hl, hxl, hf⟩ := DataW.trod_struct hF hx
    rw [cellsOf_sz hT ht] at hl
    have := shF_got (w := w) hT (S := ShC T n) hl fs 0 h.1 (Nat.zero_le _) fun p hp tf htf => by
     rw [← hm] at hp
     obtain ⟨f, hfm, rfl⟩ := List.mem_map.1 hp
     obtain ⟨i, hi, hif⟩ := List.getElem_of_mem hfm
     have hi2 : F[i]? = some f := by rw [← Array.getElem?_toList, List.getElem?_eq_getElem hi, hif]
     have h2 := hf i f hi2
     have hix : i < xs.length := by rw [hxl]; simpa using hi
     rw [List.getElem?_eq_getElem hix, cellsOf_sz hT htf] at h2
     exact ih f.type m _ _ (List.all_eq_true.1 h.2 _ (by rw [← hm]; exact List.mem_map.2 ⟨f, hfm, rfl⟩)) h2
    exact this
   | arr m e =>
    rw [hk] at h
    simp only [Bool.and_eq_true] at h
    cases hte : T e with
    | none => rw [hte] at h; exact absurd h.1 (by simp)
    | some te =>
     rw [hte] at h
     obtain ⟨xs, m', _, _, hl, hxl, hf⟩ := DataW.trod_array (hT.arr t ti m e ht hk) hx
     rw [cellsOf_sz hT ht] at hl
     have := shF_got (w := w) hT (S := ShC T n) hl _ 0 h.1 (Nat.zero_le _) fun p hp tf htf => by
      obtain ⟨i, hi, rfl⟩ := List.mem_map.1 hp
      simp only at htf ⊢
      rw [hte] at htf
      cases htf
      have hi' : i < m := by simpa using hi
      have h2 := hf i hi'
      rw [List.getElem?_eq_getElem (by omega), cellsOf_sz hT hte] at h2
      exact ih e m' _ _ h.2 h2
     simp only [hte]
     exact this
   | slice e =>
    rw [hk] at h
    simp only [Bool.and_eq_true] at h
    cases hte : T e with
    | none => rw [hte] at h; exact absurd h.1 (by simp)
    | some te =>
     rw [hte] at h
     have hsz : 0 < te.sz := by simpa using h.1
     simp only [hte]
     rcases DataW.trod_slice (hT.slice t ti e ht hk).1 hx with ⟨rfl, _⟩ | ⟨a, len, cap, elems, rest, m, _, rfl, _, _, hlc, hm, hel, hE, _, _⟩
     ·have hz : ∀ cs : Cells, cs.len = 0 → RepL (see none1 w) true [.ro cs] [.slice none 0 0] := fun cs h0 => .cons (.ro0 _ _ _ _ h0) .nil
      split
      ·rename_i k _
       exact ⟨_, ⟨.ints k [], rfl, Nat.zero_le _, [], rfl, fun x hx => by simp at hx⟩, hz _ rfl, rfl⟩
      ·exact ⟨_, ⟨.rows te.sz [], rfl, Nat.zero_le _, [], rfl, fun x hx => by simp at hx⟩, hz _ rfl, rfl⟩
     ·have each : ∀ i, ∃ ps csi, i < len → ShC T n e ps ∧ RepL (see none1 w) true ps csi ∧ ps.all PV.one = true ∧ csi.length = te.sz ∧ ∀ j, j < te.sz → w.cell? ((a.add (i * te.sz)).add j) = csi[j]? := fun i => by
       by_cases hi : i < len
       ·have h2 := hE i hi
        rw [List.getElem?_eq_getElem (by omega), cellsOf_sz hT hte, Option.bind_eq_some_iff] at h2
        obtain ⟨csi, h3, h4⟩ := h2
        obtain ⟨_, h5, h6⟩ := World.cells?_some h3
        obtain ⟨ps, k1, k2, k3⟩ := ih e m csi _ h.2 h4
        exact ⟨ps, csi, fun _ => ⟨k1, k2, k3, h5, h6⟩⟩
       ·exact ⟨[], [], fun h => absurd h hi⟩
      let g : Nat → List PV := fun i => Classical.choose (each i)
      have hg : ∀ i, i < len → ShC T n e (g i) ∧ ∃ csi, RepL (see none1 w) true (g i) csi ∧ (g i).all PV.one = true ∧ csi.length = te.sz ∧ ∀ j, j < te.sz → w.cell? ((a.add (i * te.sz)).add j) = csi[j]? := fun i hi => by
       obtain ⟨csi, hc⟩ := Classical.choose_spec (each i)
       obtain ⟨h1, h2⟩ := hc hi
       exact ⟨h1, csi, h2⟩
      have hcell : ∀ i j, i < len → j < te.sz → ∃ v, w.cell? ((a.add (i * te.sz)).add j) = some v ∧ Rep (see none1 w) true ((g i).getD j .any) v ∧ v.oneCell' = true := fun i j hi hj => by
       obtain ⟨_, csi, h1, h2, h3, h4⟩ := hg i hi
       have hlt : j < csi.length := by omega
       have hlg : j < (g i).length := by have := h1.1; omega
       have hr := h1.2 j _ _ (List.getElem?_eq_getElem hlg) (List.getElem?_eq_getElem hlt)
       refine ⟨csi[j], by rw [h4 j hj, List.getElem?_eq_getElem hlt], by rw [List.getD_eq_getElem?_getD, List.getElem?_eq_getElem hlg]; exact hr, one_rep (List.all_eq_true.1 h2 _ (List.getElem_mem hlg)) hr⟩
      have made : ∀ cs : Cells, cs.len = len → cs.w = te.sz → (∀ i j, i < len → j < te.sz → cs.get i j = (g i).getD j .any) → RepL (see none1 w) true [.ro cs] [.slice (some a) len cap] := fun cs hcl hcw hcg => by
       refine .cons ?_ .nil
       by_cases h0 : len = 0
       ·subst h0
        exact .ro0 _ _ _ _ hcl
       ·obtain ⟨b, off, spot⟩ := a
        obtain ⟨v0, hv0, _⟩ := hcell 0 0 (by omega) hsz
        have hspot : spot = none := by
         have := World.cell?_spot hv0
         rw [Nat.zero_mul] at this
         cases spot with
         | none => rfl
         | some s => simp [Addr.add] at this
        subst hspot
        have hadd : ∀ i j, (Addr.add (Addr.add ⟨b, off, none⟩ (i * te.sz)) j) = ⟨b, off + (i * te.sz + j), none⟩ := fun i j => by rw [Addr.add_lit, Addr.add_lit, Nat.add_assoc]
        have hlt : b < w.heap.size := by
         rcases Nat.lt_or_ge b w.heap.size with h | h
         ·exact h
         ·rw [hadd] at hv0
          simp [World.cell?, Array.getElem?_eq_none h] at hv0
        have := ro_mk (c := see none1 w) (q := true) (cs := cs) (b := b) (off := off) (cp := cap) (fun i j hi hj => ?_) (fun h => h) hlt (by omega) (by omega)
        ·rwa [hcl] at this
        ·rw [hcl] at hi
         rw [hcw] at hj
         obtain ⟨v, h1, h2, h3⟩ := hcell i j hi hj
         rw [hadd] at h1
         exact ⟨v, by rw [hcw]; exact h1, by rw [hcg i j hi hj]; exact h2, h3⟩
      split
      ·rename_i k hek
       have hz : ∀ i, i < len → ∃ z, g i = [.int k z] ∧ (Lit.int k z).wf = true := fun i hi => by
        have h1 := (hg i hi).1
        cases n with
        | zero => exact h1.elim
        | succ n =>
         unfold ShC at h1
         rw [hte] at h1
         simp only [hek] at h1
         exact h1
       let zf : Nat → Int := fun i => match g i with | [.int _ z] => z | _ => 0
       have hzf : ∀ i, i < len → g i = [.int k (zf i)] ∧ (Lit.int k (zf i)).wf = true := fun i hi => by
        obtain ⟨z, h1, h2⟩ := hz i hi
        have : zf i = z := by show (match g i with | [.int _ z] => z | _ => 0) = z; rw [h1]
        rw [this]
        exact ⟨h1, h2⟩
       refine ⟨_, ⟨.ints k ((List.range len).map zf), rfl, by simp [Cells.len]; omega, _, rfl, fun x hx => ?_⟩, made _ (by simp [Cells.len]) (hT.int e te k hte hek).2.symm fun i j hi hj => ?_, rfl⟩
       ·obtain ⟨i, hi, rfl⟩ := List.mem_map.1 hx
        exact (hzf i (by simpa using hi)).2
       ·have : j = 0 := by have := (hT.int e te k hte hek).2; omega
        subst this
        rw [(hzf i hi).1]
        simp [Cells.get, hi]
      ·refine ⟨_, ⟨.rows te.sz ((List.range len).map g), rfl, by simp [Cells.len]; omega, _, rfl, fun r hr => ?_⟩, made _ (by simp [Cells.len]) rfl fun i j hi hj => ?_, rfl⟩
       ·obtain ⟨i, hi, rfl⟩ := List.mem_map.1 hr
        exact (hg i (by simpa using hi)).1
       ·simp [Cells.get, hi]

theorem open_one (hT : TyOk P T) {n : Nat} {t : TypeId} {ti : TI} (ht : T t = some ti) (hk : ti.k.agg = false) (hok : okT T n t = true) {r : Reach} {b0 : Nat} {v : Value} {d : DataW H} {ps : List MemPlace} (hval : Value.okWide P w r b0 t v) (hd : DataW.Trod enc P w 0 sp held t v d ps) :
  ∃ p, ShC T n t [p] ∧ Rep (see none1 w) true p v := by
 obtain ⟨fuel, hf⟩ := hd
 obtain ⟨qs, h1, h2, _⟩ := open_cells hT n t fuel _ _ hok hf
 have hone : v.cells.toList.length = 1 → v.cells = #[v] → ∃ p, ShC T n t [p] ∧ Rep (see none1 w) true p v := fun hl hc => by
  rw [hc] at h2
  match qs, h2.1 with
  | [p], _ => exact ⟨p, h1, h2.2 0 p v rfl rfl⟩
 cases v with
 | agg cs =>
  exfalso
  cases n with
  | zero => cases hok
  | succ n =>
   unfold ShC at h1
   rw [ht] at h1
   cases hk' : ti.k with
   | int k => unfold Value.okWide Cell.okWide Cell.ok at hval; rw [(hT.int t ti k ht hk').1] at hval; simp at hval
   | bool => unfold Value.okWide Cell.okWide Cell.ok at hval; rw [(hT.bool t ti ht hk').1] at hval; simp at hval
   | str => unfold Value.okWide Cell.okWide Cell.ok at hval; rw [(hT.str t ti ht hk').1] at hval; simp at hval
   | slice e => unfold Value.okWide Cell.okWide Cell.ok at hval; rw [(hT.slice t ti e ht hk').1] at hval; simp at hval
   | struct fs => rw [hk'] at hk; cases hk
   | arr m e => rw [hk'] at hk; cases hk
   | other => simp only [hk'] at h1
 | _ => exact hone rfl rfl
theorem open_agg (hT : TyOk P T) {n : Nat} {t : TypeId} {ti : TI} (ht : T t = some ti) (hk : ti.k.agg = true) (hok : okT T n t = true) {r : Reach} {b0 : Nat} {v : Value} {d : DataW H} {ps : List MemPlace} (hval : Value.okWide P w r b0 t v) (hd : DataW.Trod enc P w 0 sp held t v d ps) :
  ∃ qs, ShC T n t qs ∧ Rep (see none1 w) true (.agg qs) v := by
 obtain ⟨fuel, hf⟩ := hd
 obtain ⟨qs, h1, h2, _⟩ := open_cells hT n t fuel _ _ hok hf
 have : ∃ cs, v = .agg cs := by
  unfold Value.okWide at hval
  cases hk' : ti.k with
  | struct fs =>
   obtain ⟨F, hF, _⟩ := hT.struct t ti fs ht hk'
   rw [hF] at hval
   obtain ⟨cs, h, _⟩ := hval
   exact ⟨cs, h⟩
  | arr m e =>
   rw [hT.arr t ti m e ht hk'] at hval
   obtain ⟨cs, h, _⟩ := hval
   exact ⟨cs, h⟩
  | _ => rw [hk'] at hk; cases hk
 obtain ⟨cs, rfl⟩ := this
 exact ⟨qs, h1, .agg _ _ _ (by simpa [Value.cells] using h2.1) fun i p u hp hu => h2.2 i p u hp (by simpa [Value.cells] using hu)⟩
end
end Go.Pv

