import Derived.Test.YtgheplondkoedaaWf
import Derived.Test.YtgheplondkoedaaTyh
import Derived.Test.YtgheplondkoedaaHbits
import Derived.Test.YtgheplondkoedaaHbits2
import Derived.Test.YtgheplondkoedaaHsrt
import Derived.Test.YtgheplondkoedaaHbk
namespace Go.Proofs.Ytgheplondkoedaa
set_option linter.unusedVariables false
set_option linter.unusedSimpArgs false
set_option maxRecDepth 10000
open Go Go.Pv

open Go.RowKit
theorem mem_at {α : Type} [Inhabited α] {w : List α} {j : Nat} (h : j < w.length) : w[j]?.getD default ∈ w := by
 rw [List.getElem?_eq_getElem h]
 exact List.getElem_mem h
theorem lt_step {i : Nat} {q : Nat → Prop} (h : ∀ j < i, q j) (h2 : q i) : ∀ j < i + 1, q j := fun j hj => by
 rcases Nat.lt_succ_iff_lt_or_eq.1 hj with h3 | h3
 ·exact h j h3
 ·subst h3; exact h2
structure Sc where
 book : Int
 len : Int
instance : Inhabited Sc := ⟨⟨0, 0⟩⟩
def Sc.row (x : Sc) : List PV := [.int .i64 x.book, .int .i64 x.len]
theorem s_at {l : List (List Sc)} {k : Nat} (h : k < l.length) : (Option.map (fun w => [PV.ro (.rows 2 (w.map Sc.row))]) l[k]?).getD [] = [.ro (.rows 2 ((l[k]?.getD []).map Sc.row))] := by
 rw [List.getElem?_eq_getElem h]; rfl
theorem any_no {α : Type} [Inhabited α] {p : α → Bool} {xs : List α} {k : Nat} (hk : xs.length ≤ k) (h : ∀ j < k, p (xs[j]?.getD default) = false) : xs.any p = false := by
 rw [List.any_eq_false]
 intro x hx
 obtain ⟨j, hj, rfl⟩ := List.getElem_of_mem hx
 have := h j (by omega)
 rw [List.getElem?_eq_getElem hj, Option.getD_some] at this
 rw [this]
 simp
def mkB (n size : Int) : Int := n % 2 ^ size.toNat
def pk (n size : Int) : List Int := bitsOf (mkB n size).toNat size.toNat
theorem sc_at {ws : List Sc} {k : Nat} (h : k < ws.length) : (Option.map Sc.row ws[k]?).getD [] = [.int .i64 (ws[k]?.getD default).book, .int .i64 (ws[k]?.getD default).len] := by
 rw [List.getElem?_eq_getElem h]; rfl
def badS (x : Sc) : Bool := decide (x.len < 1) || (decide (40 < x.len) || (decide (x.book < 0) || (decide (11 < x.book) && !decide (x.book = 13))))
def lenS (l : List Sc) (k : Nat) : Int := ((l.take k).map Sc.len).sum
theorem lenS_succ (l : List Sc) (k : Nat) (h : k < l.length) : lenS l (k + 1) = lenS l k + (l[k]?.getD default).len := by
 unfold lenS
 rw [List.take_succ_eq_append_getElem h, List.map_append, List.sum_append, List.getElem?_eq_getElem h]
 simp
def secL (m : Int) (l : List Sc) : Bool := !(l.any badS) && (decide (lenS l l.length = m) && decide (l.length ≤ 40))
def secB (m : Int) (g : List Int) (se : List (List Sc)) : Bool := decide (se.length = g.length) && se.all (secL m)
theorem badS_no {x : Sc} (h : badS x = false) : (1 ≤ x.len ∧ x.len ≤ 40) ∧ 0 ≤ x.book ∧ (x.book ≤ 11 ∨ x.book = 13) := by
 unfold badS at h
 simp only [Bool.or_eq_false_iff, decide_eq_false_iff_not, Bool.and_eq_false_iff, Bool.not_eq_false', decide_eq_true_eq] at h
 obtain ⟨h1, h2, h3, h4⟩ := h
 refine ⟨by omega, by omega, ?_⟩
 rcases h4 with h | h
 ·exact .inl (by omega)
 ·exact .inr h
theorem all_yes {α : Type} [Inhabited α] {p : α → Bool} {xs : List α} {k : Nat} (hk : xs.length ≤ k) (h : ∀ j < k, p (xs[j]?.getD default) = true) : xs.all p = true := by
 rw [List.all_eq_true]
 intro x hx
 obtain ⟨j, hj, rfl⟩ := List.getElem_of_mem hx
 have := h j (by omega)
 rwa [List.getElem?_eq_getElem hj] at this
instance : DecidableEq Sc := fun ⟨a, b⟩ ⟨c, d⟩ => decidable_of_iff (a = c ∧ b = d) (by simp)
theorem eqs_len {α : Type} {xs ys : List α} (h : ¬ xs.length = ys.length) : ¬ xs = ys := fun e => h (by rw [e])
theorem eqs_no {α : Type} (d : α) {xs ys : List α} {k : Nat} (h : ¬ xs[k]?.getD d = ys[k]?.getD d) : ¬ xs = ys := fun e => h (by rw [e])
theorem eqs_yes {α : Type} (d : α) {xs ys : List α} {k : Nat} (hl : xs.length = ys.length) (hk : xs.length ≤ k) (h : ∀ j < k, xs[j]?.getD d = ys[j]?.getD d) : xs = ys := by
 refine List.ext_getElem hl fun j h1 h2 => ?_
 have := h j (by omega)
 rwa [List.getElem?_eq_getElem h1, List.getElem?_eq_getElem h2] at this
theorem len_sum : ∀ (ws : List Sc), (∀ x ∈ ws, badS x = false) → (ws.length : Int) ≤ (ws.map Sc.len).sum
 | [], _ => by simp
 | x :: r, h => by
  have h1 := badS_no (h x (by simp))
  have h2 := len_sum r fun y hy => h y (by simp [hy])
  simp only [List.length_cons, List.map_cons, List.sum_cons]
  omega
theorem lenS_mono {l : List Sc} (h : ∀ x ∈ l, badS x = false) {k : Nat} (hk : k ≤ l.length) : lenS l k ≤ (l.map Sc.len).sum := by
 have h1 : l = l.take k ++ l.drop k := (List.take_append_drop k l).symm
 have h2 : (l.map Sc.len).sum = lenS l k + ((l.drop k).map Sc.len).sum := by
  conv => lhs; rw [h1]
  rw [List.map_append, List.sum_append]
  rfl
 have h3 := len_sum (l.drop k) fun x hx => h x (List.mem_of_mem_drop hx)
 omega
def bkR (l : List Sc) : List Int := l.flatMap fun x => List.replicate x.len.toNat x.book
theorem bkR_succ {l : List Sc} {i : Nat} (h : i < l.length) : bkR (l.take (i + 1)) = bkR (l.take i) ++ List.replicate (l[i]?.getD default).len.toNat (l[i]?.getD default).book := by
 unfold bkR
 rw [List.take_succ_eq_append_getElem h, List.flatMap_append, List.getElem?_eq_getElem h]
 simp
theorem bkR_len : ∀ {l : List Sc}, (∀ x ∈ l, badS x = false) → ((bkR l).length : Int) = (l.map Sc.len).sum
 | [], _ => rfl
 | x :: r, h => by
  have h1 := badS_no (h x (by simp))
  have h2 := bkR_len (l := r) fun y hy => h y (List.mem_cons_of_mem x hy)
  unfold bkR at h2 ⊢
  simp only [List.flatMap_cons, List.length_append, List.length_replicate, List.map_cons, List.sum_cons]
  omega
theorem bkR_cut {l : List Sc} {i c : Nat} (h : i < l.length) (hc : c < (l[i]?.getD default).len.toNat) : (bkR l)[(bkR (l.take i)).length + c]?.getD 0 = (l[i]?.getD default).book ∧ (bkR (l.take i)).length + c < (bkR l).length := by
 have e : bkR l = bkR (l.take i) ++ (List.replicate (l[i]?.getD default).len.toNat (l[i]?.getD default).book ++ bkR (l.drop (i + 1))) := by
  have h1 : l = l.take i ++ l[i] :: l.drop (i + 1) := by rw [← List.drop_eq_getElem_cons h, List.take_append_drop]
  conv => lhs; rw [h1]
  unfold bkR
  rw [List.flatMap_append, List.flatMap_cons, List.getElem?_eq_getElem h, Option.getD_some]
 refine ⟨?_, ?_⟩
 ·rw [e, List.getElem?_append_right (by omega), show (bkR (l.take i)).length + c - (bkR (l.take i)).length = c by omega, List.getElem?_append_left (by rw [List.length_replicate]; exact hc), List.getElem?_replicate, if_pos hc]
  rfl
 ·rw [e, List.length_append, List.length_append, List.length_replicate]
  omega
theorem bkR_mem {l : List Sc} (h : ∀ x ∈ l, badS x = false) : ∀ b ∈ bkR l, 0 ≤ b ∧ (b ≤ 11 ∨ b = 13) := fun b hb => by
 unfold bkR at hb
 obtain ⟨x, hx, h2⟩ := List.mem_flatMap.1 hb
 have h3 := badS_no (h x hx)
 rw [(List.mem_replicate.1 h2).2]
 omega
def grpB (w : List Sc) : Bool := !(w.any badS) && decide ((w.map Sc.len).sum ≤ 40)
theorem grp_true {w : List Sc} (h : grpB w = true) : (∀ x ∈ w, badS x = false) ∧ (w.map Sc.len).sum ≤ 40 ∧ w.length ≤ 40 := by
 unfold grpB at h
 rw [Bool.and_eq_true, decide_eq_true_eq, Bool.not_eq_true', List.any_eq_false] at h
 have h1 : ∀ x ∈ w, badS x = false := fun x hx => by simpa using h.1 x hx
 have := len_sum w h1
 exact ⟨h1, h.2, by omega⟩
theorem grp_mk {w : List Sc} {k : Nat} (hk : w.length ≤ k) (h : ∀ j < k, badS (w[j]?.getD default) = false) (hs : lenS w k ≤ 40) : grpB w = true := by
 unfold grpB
 rw [any_no hk h, decide_eq_true (show (w.map Sc.len).sum ≤ 40 by have : lenS w k = (w.map Sc.len).sum := by { unfold lenS; rw [List.take_of_length_le hk] }; omega)]
 rfl
theorem grp_over {w : List Sc} {k : Nat} (hk : k < w.length) (h : (w[k]?.getD default).len < 1 ∨ 40 - lenS w k < (w[k]?.getD default).len ∨ (w[k]?.getD default).book < 0 ∨ (11 < (w[k]?.getD default).book ∧ ¬ (w[k]?.getD default).book = 13)) : grpB w = false := by
 cases hs : grpB w with
 | false => rfl
 | true =>
  obtain ⟨h1, h2, h3⟩ := grp_true hs
  have h4 := badS_no (h1 _ (mem_at (w := w) (j := k) hk))
  have h5 := lenS_mono h1 (k := k + 1) (by omega)
  rw [lenS_succ w k hk] at h5
  omega
def mayG (ga : Int) (l : List (List Sc)) : Bool := decide (0 ≤ ga ∧ ga ≤ 255 ∧ l.length ≤ 8) && l.all grpB
theorem mayG_no {ga : Int} {l : List (List Sc)} (h : ¬ (0 ≤ ga ∧ ga ≤ 255 ∧ l.length ≤ 8)) : mayG ga l = false := by unfold mayG; rw [decide_eq_false h]; rfl
theorem mayG_one {ga : Int} {l : List (List Sc)} {k : Nat} (hk : k < l.length) (h : grpB (l[k]?.getD []) = false) : mayG ga l = false := by
 unfold mayG
 have : l.all grpB = false := by
  rw [List.all_eq_false]
  exact ⟨_, mem_at hk, by rw [show l[k]?.getD default = l[k]?.getD [] from rfl, h]; simp⟩
 rw [this, Bool.and_false]
theorem mayG_yes {ga : Int} {l : List (List Sc)} {k : Nat} (h0 : 0 ≤ ga ∧ ga ≤ 255 ∧ l.length ≤ 8) (hk : l.length ≤ k) (h : ∀ i < k, grpB (l[i]?.getD []) = true) : mayG ga l = true := by
 unfold mayG
 rw [decide_eq_true h0, all_yes hk h]
 rfl
theorem mayG_true {ga : Int} {l : List (List Sc)} (h : mayG ga l = true) : (0 ≤ ga ∧ ga ≤ 255 ∧ l.length ≤ 8) ∧ ∀ w ∈ l, (∀ x ∈ w, badS x = false) ∧ (w.map Sc.len).sum ≤ 40 ∧ w.length ≤ 40 := by
 unfold mayG at h
 rw [Bool.and_eq_true, decide_eq_true_eq, List.all_eq_true] at h
 exact ⟨h.1, fun w hw => grp_true (h.2 w hw)⟩
/-- Whether a step may be behind those ahead (of books 1 to 11; of noise, below 0: none). -/
def tkB (a : Int × Int) (b n : Int) : Bool :=
 if b = 13 then decide ((0 ≤ n ∧ n ≤ 511) ∧ (a.2 < 0 ∨ (a.2 - 60 ≤ n ∧ n ≤ a.2 + 60))) else decide ((0 ≤ n ∧ n ≤ 255) ∧ a.1 - 60 ≤ n ∧ n ≤ a.1 + 60)
def tkN (a : Int × Int) (b n : Int) : Int × Int := if b = 13 then (a.1, n) else (n, a.2)
def bdB (a : Int × Int) (b n : Int) : Bool := if b = 0 then decide (n = 0) else tkB a b n
def bdN (a : Int × Int) (b n : Int) : Int × Int := if b = 0 then a else tkN a b n
def aN (bs ns : List Int) (a : Int × Int) : Nat → Int × Int
 | 0 => a
 | k + 1 => bdN (aN bs ns a k) (bs[k]?.getD 0) (ns[k]?.getD 0)
def oN (bs ns : List Int) (a : Int × Int) : Nat → Bool
 | 0 => true
 | k + 1 => oN bs ns a k && bdB (aN bs ns a k) (bs[k]?.getD 0) (ns[k]?.getD 0)
def RW (l : List (List Sc)) (k : Nat) : List Int := bkR (l[k]?.getD [])
def gN (l : List (List Sc)) (st : List (List Int)) (ga : Int) : Nat → Int × Int
 | 0 => (ga, -1)
 | k + 1 => aN (RW l k) (st[k]?.getD []) (gN l st ga k) (RW l k).length
def oG (l : List (List Sc)) (st : List (List Int)) (ga : Int) : Nat → Bool
 | 0 => true
 | k + 1 => oG l st ga k && (decide ((st[k]?.getD []).length = (RW l k).length) && oN (RW l k) (st[k]?.getD []) (gN l st ga k) (RW l k).length)
/-- The error of steps. -/
def chS (ga : Int) (l : List (List Sc)) (st : List (List Int)) : Int := if mayG ga l = true ∧ l.length = st.length ∧ oG l st ga l.length = true then 0 else 8
theorem oN_mono {bs ns : List Int} {a : Int × Int} {k : Nat} : ∀ {n : Nat}, k ≤ n → oN bs ns a n = true → oN bs ns a k = true
 | 0, h, h2 => by rw [show k = 0 by omega]; rfl
 | n + 1, h, h2 => by
  rcases (show k = n + 1 ∨ k ≤ n by omega) with rfl | h3
  ·exact h2
  ·rw [oN, Bool.and_eq_true] at h2
   exact oN_mono h3 h2.1
theorem oG_mono {l : List (List Sc)} {st : List (List Int)} {ga : Int} {k : Nat} : ∀ {n : Nat}, k ≤ n → oG l st ga n = true → oG l st ga k = true
 | 0, h, h2 => by rw [show k = 0 by omega]; rfl
 | n + 1, h, h2 => by
  rcases (show k = n + 1 ∨ k ≤ n by omega) with rfl | h3
  ·exact h2
  ·rw [oG, Bool.and_eq_true] at h2
   exact oG_mono h3 h2.1
theorem oN_at {bs ns : List Int} {a : Int × Int} {k n : Nat} (h : oN bs ns a n = true) (hk : k < n) : bdB (aN bs ns a k) (bs[k]?.getD 0) (ns[k]?.getD 0) = true := by
 have := oN_mono (k := k + 1) (by omega) h
 rw [oN, Bool.and_eq_true] at this
 exact this.2
theorem oG_at {l : List (List Sc)} {st : List (List Int)} {ga : Int} {k n : Nat} (h : oG l st ga n = true) (hk : k < n) : (st[k]?.getD []).length = (RW l k).length ∧ oN (RW l k) (st[k]?.getD []) (gN l st ga k) (RW l k).length = true := by
 have := oG_mono (k := k + 1) (by omega) h
 rw [oG, Bool.and_eq_true, Bool.and_eq_true, decide_eq_true_eq] at this
 exact this.2
/-- The first band that may not be. -/
theorem oN_first {bs ns : List Int} {a : Int × Int} {n : Nat} (h : ¬ (n ≤ ns.length ∧ oN bs ns a n = true)) : ∃ J, J < n ∧ oN bs ns a J = true ∧ J ≤ ns.length ∧ (J < ns.length → bdB (aN bs ns a J) (bs[J]?.getD 0) (ns[J]?.getD 0) = false) := by
 induction n with
 | zero => exact absurd ⟨by omega, rfl⟩ h
 | succ n ih =>
  by_cases h1 : n ≤ ns.length ∧ oN bs ns a n = true
  ·refine ⟨n, by omega, h1.2, h1.1, fun hn => ?_⟩
   cases hb : bdB (aN bs ns a n) (bs[n]?.getD 0) (ns[n]?.getD 0) with
   | false => rfl
   | true => exact absurd ⟨by omega, by rw [oN, h1.2, hb]; rfl⟩ h
  ·obtain ⟨J, a1, a2⟩ := ih h1
   exact ⟨J, by omega, a2⟩
theorem chS_8 {ga : Int} {l : List (List Sc)} {st : List (List Int)} (h : ¬ (mayG ga l = true ∧ l.length = st.length ∧ oG l st ga l.length = true)) : chS ga l st = 8 := if_neg h
theorem chS_0 {ga : Int} {l : List (List Sc)} {st : List (List Int)} (h : mayG ga l = true ∧ l.length = st.length ∧ oG l st ga l.length = true) : chS ga l st = 0 := if_pos h
theorem chS_ok {ga : Int} {l : List (List Sc)} {st : List (List Int)} (h : chS ga l st = 0) : mayG ga l = true ∧ l.length = st.length ∧ oG l st ga l.length = true := by
 unfold chS at h
 split at h
 ·assumption
 ·cases h
theorem chS_k {ga : Int} {l : List (List Sc)} {st : List (List Int)} {k : Nat} (hk : k < l.length) (h : ¬ ((st[k]?.getD []).length = (RW l k).length ∧ oN (RW l k) (st[k]?.getD []) (gN l st ga k) (RW l k).length = true)) : chS ga l st = 8 := chS_8 fun hh => h (oG_at hh.2.2 hk)
def AOk (a : Int × Int) : Prop := (0 ≤ a.1 ∧ a.1 ≤ 255) ∧ -1 ≤ a.2 ∧ a.2 ≤ 511
theorem bdN_ok {a : Int × Int} {b n : Int} (ha : AOk a) (h : bdB a b n = true) : AOk (bdN a b n) := by
 unfold bdB at h
 unfold bdN
 unfold AOk at ha ⊢
 split
 ·exact ha
 ·rename_i hb
  rw [if_neg hb] at h
  unfold tkB at h
  unfold tkN
  split at h
  ·rename_i h13
   rw [if_pos h13]
   rw [decide_eq_true_eq] at h
   exact ⟨ha.1, by show -1 ≤ n ∧ n ≤ 511; omega⟩
  ·rename_i h13
   rw [if_neg h13]
   rw [decide_eq_true_eq] at h
   exact ⟨by show 0 ≤ n ∧ n ≤ 255; omega, ha.2⟩
theorem aN_ok {bs ns : List Int} {a : Int × Int} (ha : AOk a) : ∀ k, oN bs ns a k = true → AOk (aN bs ns a k)
 | 0, _ => ha
 | k + 1, h => by
  rw [oN, Bool.and_eq_true] at h
  exact bdN_ok (aN_ok ha k h.1) h.2
theorem gN_ok {l : List (List Sc)} {st : List (List Int)} {ga : Int} (hg : 0 ≤ ga ∧ ga ≤ 255) : ∀ k, oG l st ga k = true → AOk (gN l st ga k)
 | 0, _ => ⟨hg, by show (-1 : Int) ≤ -1; omega, by show (-1 : Int) ≤ 511; omega⟩
 | k + 1, h => by
  rw [oG, Bool.and_eq_true, Bool.and_eq_true] at h
  exact aN_ok (gN_ok hg k h.1) _ h.2.2
theorem i_at {l : List (List Int)} {k : Nat} (h : k < l.length) : (Option.map (fun w => [PV.ro (.ints .i64 w)]) l[k]?).getD [] = [.ro (.ints .i64 (l[k]?.getD []))] := by
 rw [List.getElem?_eq_getElem h]; rfl
theorem tk_yes {a : Int × Int} {b n : Int} (hb : ¬ b = 0) (h : bdB a b n = true) : tkB a b n = true := by unfold bdB at h; rwa [if_neg hb] at h
theorem tk_no {a : Int × Int} {b n : Int} (hb : ¬ b = 0) (h : bdB a b n = false) : tkB a b n = false := by unfold bdB at h; rwa [if_neg hb] at h
theorem bdN_n0 {a : Int × Int} {b n : Int} (hb : ¬ b = 0) : bdN a b n = tkN a b n := if_neg hb
theorem bdN_00 {a : Int × Int} {b n : Int} (hb : b = 0) : bdN a b n = a := if_pos hb
theorem bd_z {a : Int × Int} {b n : Int} (hb : b = 0) (h : bdB a b n = true) : n = 0 := by unfold bdB at h; rw [if_pos hb] at h; simpa using h
theorem bd_nz {a : Int × Int} {b n : Int} (hb : b = 0) (h : bdB a b n = false) : ¬ n = 0 := by unfold bdB at h; rw [if_pos hb] at h; simpa using h

theorem tkB_true {a : Int × Int} {b n : Int} (h : tkB a b n = true) : (b = 13 → (0 ≤ n ∧ n ≤ 511) ∧ (a.2 < 0 ∨ (a.2 - 60 ≤ n ∧ n ≤ a.2 + 60))) ∧ (¬ b = 13 → (0 ≤ n ∧ n ≤ 255) ∧ a.1 - 60 ≤ n ∧ n ≤ a.1 + 60) := by
 unfold tkB at h
 split at h
 ·rename_i hb; rw [decide_eq_true_eq] at h; exact ⟨fun _ => h, fun h2 => absurd hb h2⟩
 ·rename_i hb; rw [decide_eq_true_eq] at h; exact ⟨fun h2 => absurd h2 hb, fun _ => h⟩
theorem tkB_false {a : Int × Int} {b n : Int} (h : tkB a b n = false) : (b = 13 → ¬ ((0 ≤ n ∧ n ≤ 511) ∧ (a.2 < 0 ∨ (a.2 - 60 ≤ n ∧ n ≤ a.2 + 60)))) ∧ (¬ b = 13 → ¬ ((0 ≤ n ∧ n ≤ 255) ∧ a.1 - 60 ≤ n ∧ n ≤ a.1 + 60)) := by
 unfold tkB at h
 split at h
 ·rename_i hb; rw [decide_eq_false_iff_not] at h; exact ⟨fun _ => h, fun h2 => absurd hb h2⟩
 ·rename_i hb; rw [decide_eq_false_iff_not] at h; exact ⟨fun h2 => absurd h2 hb, fun _ => h⟩
theorem tkN_13 {a : Int × Int} {b n : Int} (h : b = 13) : tkN a b n = (a.1, n) := if_pos h
theorem tkN_n {a : Int × Int} {b n : Int} (h : ¬ b = 13) : tkN a b n = (n, a.2) := if_neg h

attribute [local simp] runs gd step1 need evu un opnds opv ev cst cst1 cstL getT getH putT onL nxt argT cellsOf PV.one thn inBlk jmp fldP ldP ldC live Cells.len Cells.get Cells.w sug ldv bin eqF eq1 ops2 sh2 binv Tk.agg stC apC rdS apS cpC cpS mvL zp argsP idx fillP toInts chunks mkC ixS ixA oidx slP sl0 slA optL List.append mxF bltn frzA frz frzL frz1 pur1 Cells.pur PV.scal scal1 runD rdO PV.ids id1 zids ety Eff.on cnd minb and1b ifmax ifmin mxv sugI strv w0 w1 w2 wm1
set_option maxHeartbeats 2000000 in
theorem smay_ok (ga : Int) (l : List (List Sc)) (hl : l.length ≤ 1000000) (hw : ∀ w ∈ l, w.length ≤ 1000000) : PCall Try.prog 75 [.int .i64 ga, .ro (.rows 1 (l.map fun w => [.ro (.rows 2 (w.map Sc.row))]))] (.bool (mayG ga l)) := by
 refine pcall_body ty_ok Try.func75 rfl (by rfl) (by simp) ?_
 rw [Try.ntmps75]
 refine swp_seq fun K1 hK1 => ?_
 refine swp_region ty_ok ?_
 try simp (maxSteps := 1000000)
 repeat' (first | apply And.intro | intro _)
 any_goals (first | (refine hK1 _ ?_; clear hK1) | omega | (simp_all <;> omega))
 refine swp_seq fun K2 hK2 => ?_
 refine swp_seq fun K3 hK3 => ?_
 refine swp_region ty_ok ?_
 try simp (maxSteps := 1000000)
 repeat' (first | apply And.intro | intro _)
 any_goals (first | (refine hK3 _ ?_; clear hK3) | omega | (simp_all <;> omega))
 refine swp_if fun C4 hC4 => ?_
 try simp (maxSteps := 1000000)
 refine hC4 _ (fun hc4 => ?_) (fun hc4 => ?_)
 ·clear hC4
  try simp at hc4
  refine swp_seq fun K5 hK5 => ?_
  refine swp_region ty_ok ?_
  try simp (maxSteps := 1000000)
  repeat' (first | apply And.intro | intro _)
  any_goals (first | (refine hK5 _ ?_; clear hK5) | omega | (simp_all <;> omega))
  refine swp_ret ?_
  simp [fnPost, Try.results75, resP, tupOf]
  exact mayG_no (by have h := hc4; omega)
 ·clear hC4
  try simp at hc4
  refine swp_skip ?_
  try simp only [thn, inBlk]
  refine hK2 _ ?_; clear hK2
  refine swp_seq fun K6 hK6 => ?_
  refine swp_seq fun K7 hK7 => ?_
  refine swp_region ty_ok ?_
  try simp (maxSteps := 1000000)
  repeat' (first | apply And.intro | intro _)
  any_goals (first | (refine hK7 _ ?_; clear hK7) | omega | (simp_all <;> omega))
  refine swp_block ?_
  refine swp_loop 0 (fun m_ s_ => ∃ (k : Nat), (k ≤ l.length) ∧ (0 ≤ ga ∧ ga ≤ 255 ∧ l.length ≤ 8) ∧ (∀ i < k, grpB (l[i]?.getD []) = true) ∧ s_ = ⟨[(21, .ro (.rows 1 (l.map fun w => [.ro (.rows 2 (w.map Sc.row))]))), (22, .int .i64 (l.length : Nat)), (23, .int .i64 (k : Nat))], [], 0⟩ ∧ m_ = l.length - k) _ ⟨[(21, .ro (.rows 1 (l.map fun w => [.ro (.rows 2 (w.map Sc.row))]))), (22, .int .i64 (l.length : Nat)), (23, .int .i64 (0 : Nat))], [], 0⟩ ⟨by simp [getT, PV.lo, lo1], by simp [getH, Blk.lo, Cells.lo, lo1], rfl, by omega⟩ ⟨(0), by omega, by omega, by simp, rfl, rfl⟩ ?_
  rintro m_ s_ ⟨k, hL8_0, hL8_1, hL8_2, rfl, rfl⟩ KL8 hL8
  have hkw := wnext (i := k) (by omega)
  refine swp_seq fun K9 hK9 => ?_
  refine swp_region ty_ok ?_
  try simp (maxSteps := 1000000)
  repeat' (first | apply And.intro | intro _)
  any_goals (first | (refine hK9 _ ?_; clear hK9) | omega | (simp_all <;> omega))
  refine swp_seq fun K10 hK10 => ?_
  refine swp_if fun C11 hC11 => ?_
  try simp (maxSteps := 1000000)
  refine hC11 _ (fun hc11 => ?_) (fun hc11 => ?_)
  ·clear hC11
   try simp at hc11
   refine swp_skip ?_
   try simp only [thn, inBlk]
   refine hK10 _ ?_; clear hK10
   refine swp_seq fun K12 hK12 => ?_
   refine swp_block ?_
   refine swp_seq fun K13 hK13 => ?_
   have hrow := s_at (l := l) (k := k) (by omega)
   have hsl : (l[k]?.getD []).length ≤ 1000000 := hw _ (mem_at (w := l) (j := k) (by omega))
   refine swp_region ty_ok ?_
   try simp (maxSteps := 1000000) [hrow]
   repeat' (first | apply And.intro | intro _)
   any_goals (first | (refine hK13 _ ?_; clear hK13) | omega | (simp_all <;> omega))
   refine swp_seq fun K14 hK14 => ?_
   refine swp_region ty_ok ?_
   try simp (maxSteps := 1000000)
   repeat' (first | apply And.intro | intro _)
   any_goals (first | (refine hK14 _ ?_; clear hK14) | omega | (simp_all <;> omega))
   refine swp_seq fun K15 hK15 => ?_
   refine swp_region ty_ok ?_
   try simp (maxSteps := 1000000)
   repeat' (first | apply And.intro | intro _)
   any_goals (first | (refine hK15 _ ?_; clear hK15) | omega | (simp_all <;> omega))
   refine swp_block ?_
   refine swp_loop 0 (fun m_ s_ => ∃ (j : Nat), (j ≤ (l[k]?.getD []).length) ∧ (∀ i < j, badS ((l[k]?.getD [])[i]?.getD default) = false) ∧ (0 ≤ lenS (l[k]?.getD []) j ∧ lenS (l[k]?.getD []) j ≤ 40) ∧ s_ = ⟨[(21, .ro (.rows 1 (l.map fun w => [.ro (.rows 2 (w.map Sc.row))]))), (22, .int .i64 (l.length : Nat)), (23, .int .i64 (k : Nat)), (7, .int .i64 (40 - lenS (l[k]?.getD []) j)), (27, .ro (.rows 2 ((l[k]?.getD []).map Sc.row))), (28, .int .i64 ((l[k]?.getD []).length : Nat)), (29, .int .i64 (j : Nat))], [], 0⟩ ∧ m_ = (l[k]?.getD []).length - j) _ ⟨[(21, .ro (.rows 1 (l.map fun w => [.ro (.rows 2 (w.map Sc.row))]))), (22, .int .i64 (l.length : Nat)), (23, .int .i64 (k : Nat)), (7, .int .i64 (40 - lenS (l[k]?.getD []) 0)), (27, .ro (.rows 2 ((l[k]?.getD []).map Sc.row))), (28, .int .i64 ((l[k]?.getD []).length : Nat)), (29, .int .i64 (0 : Nat))], [], 0⟩ ⟨by simp [getT, PV.lo, lo1, lenS], by simp [getH, Blk.lo, Cells.lo, lo1], rfl, by omega⟩ ⟨(0), by omega, by simp, by (simp [lenS]), rfl, rfl⟩ ?_
   rintro m_ s_ ⟨j, hL16_0, hL16_1, hL16_2, rfl, rfl⟩ KL16 hL16
   have hjw := wnext (i := j) (by omega)
   refine swp_seq fun K17 hK17 => ?_
   refine swp_region ty_ok ?_
   try simp (maxSteps := 1000000)
   repeat' (first | apply And.intro | intro _)
   any_goals (first | (refine hK17 _ ?_; clear hK17) | omega | (simp_all <;> omega))
   refine swp_seq fun K18 hK18 => ?_
   refine swp_if fun C19 hC19 => ?_
   try simp (maxSteps := 1000000)
   refine hC19 _ (fun hc19 => ?_) (fun hc19 => ?_)
   ·clear hC19
    try simp at hc19
    refine swp_skip ?_
    try simp only [thn, inBlk]
    refine hK18 _ ?_; clear hK18
    refine swp_seq fun K20 hK20 => ?_
    refine swp_block ?_
    refine swp_seq fun K21 hK21 => ?_
    have hrj := sc_at (ws := (l[k]?.getD [])) (k := j) (by omega)
    refine swp_region ty_ok ?_
    try simp (maxSteps := 1000000) [hrj]
    repeat' (first | apply And.intro | intro _)
    any_goals (first | (refine hK21 _ ?_; clear hK21) | omega | (simp_all <;> omega))
    refine swp_seq fun K22 hK22 => ?_
    refine swp_seq fun K23 hK23 => ?_
    refine swp_region ty_ok ?_
    refine runs_cut 12 fun R24 hR24 => ?_
    try simp (maxSteps := 1000000) [List.take_succ_cons, List.take_zero, List.drop_succ_cons, List.drop_zero]
    repeat' (first | apply And.intro | intro _)
    any_goals (first | (refine hR24 _ ?_; clear hR24) | omega | (simp_all <;> omega))
    try simp (maxSteps := 1000000) [List.take_succ_cons, List.take_zero, List.drop_succ_cons, List.drop_zero]
    repeat' (first | apply And.intro | intro _)
    any_goals (first | (refine hK23 _ ?_; clear hK23) | omega | (simp_all <;> omega))
    refine swp_if fun C25 hC25 => ?_
    try simp (maxSteps := 1000000)
    refine hC25 _ (fun hc25 => ?_) (fun hc25 => ?_)
    ·clear hC25
     try simp at hc25
     refine swp_seq fun K26 hK26 => ?_
     refine swp_region ty_ok ?_
     try simp (maxSteps := 1000000)
     repeat' (first | apply And.intro | intro _)
     any_goals (first | (refine hK26 _ ?_; clear hK26) | omega | (simp_all <;> omega))
     refine swp_ret ?_
     simp [fnPost, Try.results75, resP, tupOf]
     exact mayG_one (k := k) (by omega) (grp_over (k := j) (by omega) (by have h := hc25; omega))
    ·clear hC25
     try simp at hc25
     refine swp_skip ?_
     try simp only [thn, inBlk]
     refine hK22 _ ?_; clear hK22
     have hcc := hc25
     have hls := lenS_succ (l[k]?.getD []) j (by omega)
     have hbj : badS ((l[k]?.getD [])[j]?.getD default) = false := by
      unfold badS
      simp
      omega
     have hsb : IntKind.i64.wrap (40 - lenS (l[k]?.getD []) j - ((l[k]?.getD [])[j]?.getD default).len) = 40 - lenS (l[k]?.getD []) (j + 1) := by rw [w64 (by omega), hls]; omega
     refine swp_region ty_ok ?_
     try simp (maxSteps := 1000000) [hsb, hls]
     repeat' (first | apply And.intro | intro _)
     any_goals (first | (refine hK20 _ ?_; clear hK20) | omega | (simp_all <;> omega))
     refine swp_region ty_ok ?_
     try simp (maxSteps := 1000000)
     repeat' apply And.intro
     any_goals (try omega)
     refine hL16 _ ⟨[(21, .ro (.rows 1 (l.map fun w => [.ro (.rows 2 (w.map Sc.row))]))), (22, .int .i64 (l.length : Nat)), (23, .int .i64 (k : Nat)), (7, .int .i64 (40 - lenS (l[k]?.getD []) (j + 1))), (27, .ro (.rows 2 ((l[k]?.getD []).map Sc.row))), (28, .int .i64 ((l[k]?.getD []).length : Nat)), (29, .int .i64 ((j + 1) : Nat))], [], 0⟩ _ ?_ ⟨(j + 1), by omega, by (refine lt_step (by assumption) hbj), by (rw [hls]; omega), rfl, rfl⟩ ⟨by simp [getT, PV.lo, lo1, hjw, hsb, hls], by simp [getH, Blk.lo, Cells.lo, lo1], rfl, by omega⟩
     omega
   ·clear hC19
    try simp at hc19
    refine swp_exit ?_
    simp [thn, inBlk]
    refine hK12 _ ?_; clear hK12
    refine swp_region ty_ok ?_
    try simp (maxSteps := 1000000)
    repeat' apply And.intro
    any_goals (try omega)
    refine hL8 _ ⟨[(21, .ro (.rows 1 (l.map fun w => [.ro (.rows 2 (w.map Sc.row))]))), (22, .int .i64 (l.length : Nat)), (23, .int .i64 ((k + 1) : Nat))], [], 0⟩ _ ?_ ⟨(k + 1), by omega, by omega, by (refine lt_step (by assumption) ?_; exact grp_mk (k := j) (by omega) (by assumption) (by omega)), rfl, rfl⟩ ⟨by simp [getT, PV.lo, lo1, hkw], by simp [getH, Blk.lo, Cells.lo, lo1], rfl, by omega⟩
    omega
  ·clear hC11
   try simp at hc11
   refine swp_exit ?_
   simp [thn, inBlk]
   refine hK6 _ ?_; clear hK6
   refine swp_seq fun K27 hK27 => ?_
   refine swp_region ty_ok ?_
   try simp (maxSteps := 1000000)
   repeat' (first | apply And.intro | intro _)
   any_goals (first | (refine hK27 _ ?_; clear hK27) | omega | (simp_all <;> omega))
   refine swp_ret ?_
   simp [fnPost, Try.results75, resP, tupOf]
   exact mayG_yes (k := k) (by omega) (by omega) (by assumption)

set_option maxHeartbeats 2000000 in
theorem rmay20_ok (ga : Int) (l : List (List Sc)) (hl : l.length ≤ 1000000) (hw : ∀ w ∈ l, w.length ≤ 1000000) : PCall Try.prog 78 [.int .i64 ga, .ro (.rows 1 (l.map fun w => [.ro (.rows 2 (w.map Sc.row))]))] (.bool (mayG ga l)) := by
 refine pcall_body ty_ok Try.func78 rfl (by rfl) (by simp) ?_
 rw [Try.ntmps78]
 refine swp_seq fun K1 hK1 => ?_
 refine swp_region ty_ok ?_
 try simp (maxSteps := 1000000)
 repeat' (first | apply And.intro | intro _)
 any_goals (first | (refine hK1 _ ?_; clear hK1) | omega | (simp_all <;> omega))
 refine swp_seq fun K2 hK2 => ?_
 refine swp_seq fun K3 hK3 => ?_
 refine swp_region ty_ok ?_
 try simp (maxSteps := 1000000)
 repeat' (first | apply And.intro | intro _)
 any_goals (first | (refine hK3 _ ?_; clear hK3) | omega | (simp_all <;> omega))
 refine swp_if fun C4 hC4 => ?_
 try simp (maxSteps := 1000000)
 refine hC4 _ (fun hc4 => ?_) (fun hc4 => ?_)
 ·clear hC4
  try simp at hc4
  refine swp_seq fun K5 hK5 => ?_
  refine swp_region ty_ok ?_
  try simp (maxSteps := 1000000)
  repeat' (first | apply And.intro | intro _)
  any_goals (first | (refine hK5 _ ?_; clear hK5) | omega | (simp_all <;> omega))
  refine swp_ret ?_
  simp [fnPost, Try.results78, resP, tupOf]
  exact mayG_no (by have h := hc4; omega)
 ·clear hC4
  try simp at hc4
  refine swp_skip ?_
  try simp only [thn, inBlk]
  refine hK2 _ ?_; clear hK2
  refine swp_seq fun K6 hK6 => ?_
  refine swp_seq fun K7 hK7 => ?_
  refine swp_region ty_ok ?_
  try simp (maxSteps := 1000000)
  repeat' (first | apply And.intro | intro _)
  any_goals (first | (refine hK7 _ ?_; clear hK7) | omega | (simp_all <;> omega))
  refine swp_block ?_
  refine swp_loop 0 (fun m_ s_ => ∃ (k : Nat), (k ≤ l.length) ∧ (0 ≤ ga ∧ ga ≤ 255 ∧ l.length ≤ 8) ∧ (∀ i < k, grpB (l[i]?.getD []) = true) ∧ s_ = ⟨[(1, .ro (.rows 1 (l.map fun w => [.ro (.rows 2 (w.map Sc.row))]))), (5, .int .i64 (k : Nat))], [], 0⟩ ∧ m_ = l.length - k) _ ⟨[(1, .ro (.rows 1 (l.map fun w => [.ro (.rows 2 (w.map Sc.row))]))), (5, .int .i64 (0 : Nat))], [], 0⟩ ⟨by simp [getT, PV.lo, lo1], by simp [getH, Blk.lo, Cells.lo, lo1], rfl, by omega⟩ ⟨(0), by omega, by omega, by simp, rfl, rfl⟩ ?_
  rintro m_ s_ ⟨k, hL8_0, hL8_1, hL8_2, rfl, rfl⟩ KL8 hL8
  have hkw := wnext (i := k) (by omega)
  refine swp_seq fun K9 hK9 => ?_
  refine swp_seq fun K10 hK10 => ?_
  refine swp_region ty_ok ?_
  try simp (maxSteps := 1000000)
  repeat' (first | apply And.intro | intro _)
  any_goals (first | (refine hK10 _ ?_; clear hK10) | omega | (simp_all <;> omega))
  refine swp_if fun C11 hC11 => ?_
  try simp (maxSteps := 1000000)
  refine hC11 _ (fun hc11 => ?_) (fun hc11 => ?_)
  ·clear hC11
   try simp at hc11
   refine swp_skip ?_
   try simp only [thn, inBlk]
   refine hK9 _ ?_; clear hK9
   refine swp_seq fun K12 hK12 => ?_
   refine swp_block ?_
   refine swp_seq fun K13 hK13 => ?_
   refine swp_region ty_ok ?_
   try simp (maxSteps := 1000000)
   repeat' (first | apply And.intro | intro _)
   any_goals (first | (refine hK13 _ ?_; clear hK13) | omega | (simp_all <;> omega))
   refine swp_seq fun K14 hK14 => ?_
   refine swp_region ty_ok ?_
   try simp (maxSteps := 1000000)
   repeat' (first | apply And.intro | intro _)
   any_goals (first | (refine hK14 _ ?_; clear hK14) | omega | (simp_all <;> omega))
   refine swp_block ?_
   have hrow := s_at (l := l) (k := k) (by omega)
   have hsl : (l[k]?.getD []).length ≤ 1000000 := hw _ (mem_at (w := l) (j := k) (by omega))
   refine swp_loop 0 (fun m_ s_ => ∃ (j : Nat), (j ≤ (l[k]?.getD []).length) ∧ (∀ i < j, badS ((l[k]?.getD [])[i]?.getD default) = false) ∧ (0 ≤ lenS (l[k]?.getD []) j ∧ lenS (l[k]?.getD []) j ≤ 40) ∧ s_ = ⟨[(1, .ro (.rows 1 (l.map fun w => [.ro (.rows 2 (w.map Sc.row))]))), (5, .int .i64 (k : Nat)), (6, .int .i64 (40 - lenS (l[k]?.getD []) j)), (7, .int .i64 (j : Nat))], [], 0⟩ ∧ m_ = (l[k]?.getD []).length - j) _ ⟨[(1, .ro (.rows 1 (l.map fun w => [.ro (.rows 2 (w.map Sc.row))]))), (5, .int .i64 (k : Nat)), (6, .int .i64 (40 - lenS (l[k]?.getD []) 0)), (7, .int .i64 (0 : Nat))], [], 0⟩ ⟨by simp [getT, PV.lo, lo1, lenS], by simp [getH, Blk.lo, Cells.lo, lo1], rfl, by omega⟩ ⟨(0), by omega, by simp, by (simp [lenS]), rfl, rfl⟩ ?_
   rintro m_ s_ ⟨j, hL15_0, hL15_1, hL15_2, rfl, rfl⟩ KL15 hL15
   have hjw := wnext (i := j) (by omega)
   refine swp_seq fun K16 hK16 => ?_
   refine swp_seq fun K17 hK17 => ?_
   refine swp_region ty_ok ?_
   try simp (maxSteps := 1000000) [hrow]
   repeat' (first | apply And.intro | intro _)
   any_goals (first | (refine hK17 _ ?_; clear hK17) | omega | (simp_all <;> omega))
   refine swp_if fun C18 hC18 => ?_
   try simp (maxSteps := 1000000) [hrow]
   refine hC18 _ (fun hc18 => ?_) (fun hc18 => ?_)
   ·clear hC18
    try simp at hc18
    refine swp_skip ?_
    try simp only [thn, inBlk]
    refine hK16 _ ?_; clear hK16
    refine swp_seq fun K19 hK19 => ?_
    refine swp_block ?_
    refine swp_seq fun K20 hK20 => ?_
    have hrj := sc_at (ws := (l[k]?.getD [])) (k := j) (by omega)
    refine swp_region ty_ok ?_
    try simp (maxSteps := 1000000) [hrow, hrj]
    repeat' (first | apply And.intro | intro _)
    any_goals (first | (refine hK20 _ ?_; clear hK20) | omega | (simp_all <;> omega))
    refine swp_seq fun K21 hK21 => ?_
    refine swp_seq fun K22 hK22 => ?_
    refine swp_region ty_ok ?_
    refine runs_cut 12 fun R23 hR23 => ?_
    try simp (maxSteps := 1000000) [List.take_succ_cons, List.take_zero, List.drop_succ_cons, List.drop_zero]
    repeat' (first | apply And.intro | intro _)
    any_goals (first | (refine hR23 _ ?_; clear hR23) | omega | (simp_all <;> omega))
    try simp (maxSteps := 1000000) [List.take_succ_cons, List.take_zero, List.drop_succ_cons, List.drop_zero]
    repeat' (first | apply And.intro | intro _)
    any_goals (first | (refine hK22 _ ?_; clear hK22) | omega | (simp_all <;> omega))
    refine swp_if fun C24 hC24 => ?_
    try simp (maxSteps := 1000000)
    refine hC24 _ (fun hc24 => ?_) (fun hc24 => ?_)
    ·clear hC24
     try simp at hc24
     refine swp_seq fun K25 hK25 => ?_
     refine swp_region ty_ok ?_
     try simp (maxSteps := 1000000)
     repeat' (first | apply And.intro | intro _)
     any_goals (first | (refine hK25 _ ?_; clear hK25) | omega | (simp_all <;> omega))
     refine swp_ret ?_
     simp [fnPost, Try.results78, resP, tupOf]
     exact mayG_one (k := k) (by omega) (grp_over (k := j) (by omega) (by have h := hc24; omega))
    ·clear hC24
     try simp at hc24
     refine swp_skip ?_
     try simp only [thn, inBlk]
     refine hK21 _ ?_; clear hK21
     have hcc := hc24
     have hls := lenS_succ (l[k]?.getD []) j (by omega)
     have hbj : badS ((l[k]?.getD [])[j]?.getD default) = false := by
      unfold badS
      simp
      omega
     have hsb : IntKind.i64.wrap (40 - lenS (l[k]?.getD []) j - ((l[k]?.getD [])[j]?.getD default).len) = 40 - lenS (l[k]?.getD []) (j + 1) := by rw [w64 (by omega), hls]; omega
     refine swp_region ty_ok ?_
     try simp (maxSteps := 1000000) [hsb, hls]
     repeat' (first | apply And.intro | intro _)
     any_goals (first | (refine hK19 _ ?_; clear hK19) | omega | (simp_all <;> omega))
     refine swp_region ty_ok ?_
     try simp (maxSteps := 1000000)
     repeat' apply And.intro
     any_goals (try omega)
     refine hL15 _ ⟨[(1, .ro (.rows 1 (l.map fun w => [.ro (.rows 2 (w.map Sc.row))]))), (5, .int .i64 (k : Nat)), (6, .int .i64 (40 - lenS (l[k]?.getD []) (j + 1))), (7, .int .i64 ((j + 1) : Nat))], [], 0⟩ _ ?_ ⟨(j + 1), by omega, by (refine lt_step (by assumption) hbj), by (rw [hls]; omega), rfl, rfl⟩ ⟨by simp [getT, PV.lo, lo1, hjw, hsb, hls], by simp [getH, Blk.lo, Cells.lo, lo1], rfl, by omega⟩
     omega
   ·clear hC18
    try simp at hc18
    refine swp_exit ?_
    simp [thn, inBlk]
    refine hK12 _ ?_; clear hK12
    refine swp_region ty_ok ?_
    try simp (maxSteps := 1000000)
    repeat' apply And.intro
    any_goals (try omega)
    refine hL8 _ ⟨[(1, .ro (.rows 1 (l.map fun w => [.ro (.rows 2 (w.map Sc.row))]))), (5, .int .i64 ((k + 1) : Nat))], [], 0⟩ _ ?_ ⟨(k + 1), by omega, by omega, by (refine lt_step (by assumption) ?_; exact grp_mk (k := j) (by omega) (by assumption) (by omega)), rfl, rfl⟩ ⟨by simp [getT, PV.lo, lo1, hkw], by simp [getH, Blk.lo, Cells.lo, lo1], rfl, by omega⟩
    omega
  ·clear hC11
   try simp at hc11
   refine swp_exit ?_
   simp [thn, inBlk]
   refine hK6 _ ?_; clear hK6
   refine swp_seq fun K26 hK26 => ?_
   refine swp_region ty_ok ?_
   try simp (maxSteps := 1000000)
   repeat' (first | apply And.intro | intro _)
   any_goals (first | (refine hK26 _ ?_; clear hK26) | omega | (simp_all <;> omega))
   refine swp_ret ?_
   simp [fnPost, Try.results78, resP, tupOf]
   exact mayG_yes (k := k) (by omega) (by omega) (by assumption)

theorem take_yes2 (nn : Nat) (a : Int × Int) (b n : Int) (ha : AOk a) (h : tkB a b n = true) : HCall Try.prog 68 [.ptr 2 0 0 1, .int .i64 b, .int .i64 n] [(2, some ⟨.rows 2 [[.int .i64 (a).1, .int .i64 (a).2]], true, 109⟩)] nn (.bool true) [(2, some ⟨.rows 2 [[.int .i64 (tkN a b n).1, .int .i64 (tkN a b n).2]], true, 109⟩)] := by
 have hA := ha
 unfold AOk at hA
 have h60 : IntKind.i64.wrap (a.1 - 60) = a.1 - 60 := w64 (by omega)
 have h61 : IntKind.i64.wrap (a.1 + 60) = a.1 + 60 := w64 (by omega)
 have h62 : IntKind.i64.wrap (a.2 - 60) = a.2 - 60 := w64 (by omega)
 have h63 : IntKind.i64.wrap (a.2 + 60) = a.2 + 60 := w64 (by omega)
 obtain ⟨hq1, hq2⟩ := tkB_true h
 refine hcall_body ty_ok Try.func68 rfl (by rfl) (by simp) ?_
 rw [Try.ntmps68]
 refine swp_seq fun K1 hK1 => ?_
 refine swp_region ty_ok ?_
 try simp (maxSteps := 1000000) [h60, h61, h62, h63]
 repeat' (first | apply And.intro | intro _)
 any_goals (first | (refine hK1 _ ?_; clear hK1) | omega | (simp_all <;> omega))
 refine swp_seq fun K2 hK2 => ?_
 refine swp_region ty_ok ?_
 try simp (maxSteps := 1000000) [h60, h61, h62, h63]
 repeat' (first | apply And.intro | intro _)
 any_goals (first | (refine hK2 _ ?_; clear hK2) | omega | (simp_all <;> omega))
 refine swp_seq fun K3 hK3 => ?_
 refine swp_seq fun K4 hK4 => ?_
 refine swp_region ty_ok ?_
 try simp (maxSteps := 1000000) [h60, h61, h62, h63]
 repeat' (first | apply And.intro | intro _)
 any_goals (first | (refine hK4 _ ?_; clear hK4) | omega | (simp_all <;> omega))
 refine swp_if fun C5 hC5 => ?_
 try simp (maxSteps := 1000000) [h60, h61, h62, h63]
 refine hC5 _ (fun hc5 => ?_) (fun hc5 => ?_)
 ·clear hC5
  try simp at hc5
  refine swp_draw ty_ok mixed (ms := [0, 1, 3, 0, 8, 24, 56, 120, 7, 263, 1023]) (by kernel_rfl) ?_
  try simp (maxSteps := 1000000) [h60, h61, h62, h63]
  repeat' (first | apply And.intro | intro _)
  any_goals (first | kernel_rfl | (refine hK3 _ ?_; clear hK3) | omega | (simp_all <;> omega))
  refine swp_seq fun K7 hK7 => ?_
  refine swp_seq fun K8 hK8 => ?_
  refine swp_region ty_ok ?_
  refine runs_cut 9 fun R9 hR9 => ?_
  try simp (maxSteps := 1000000) [h60, h61, h62, h63, List.take_succ_cons, List.take_zero, List.drop_succ_cons, List.drop_zero]
  repeat' (first | apply And.intro | intro _)
  any_goals (first | (refine hR9 _ ?_; clear hR9) | omega | (simp_all <;> omega))
  refine runs_cut 9 fun R10 hR10 => ?_
  try simp (maxSteps := 1000000) [h60, h61, h62, h63, List.take_succ_cons, List.take_zero, List.drop_succ_cons, List.drop_zero]
  repeat' (first | apply And.intro | intro _)
  any_goals (first | (refine hR10 _ ?_; clear hR10) | omega | (simp_all <;> omega))
  try simp (maxSteps := 1000000) [h60, h61, h62, h63, List.take_succ_cons, List.take_zero, List.drop_succ_cons, List.drop_zero]
  repeat' (first | apply And.intro | intro _)
  any_goals (first | (refine hK8 _ ?_; clear hK8) | omega | (simp_all <;> omega))
  refine swp_if fun C11 hC11 => ?_
  try simp (maxSteps := 1000000) [h60, h61, h62, h63]
  refine hC11 _ (fun hc11 => ?_) (fun hc11 => ?_)
  ·exfalso
   have h := hc11
   simp at h
   omega
  ·clear hC11
   try simp at hc11
   refine swp_skip ?_
   try simp only [thn, inBlk]
   refine hK7 _ ?_; clear hK7
   refine swp_seq fun K12 hK12 => ?_
   refine swp_region ty_ok ?_
   try simp (maxSteps := 1000000) [h60, h61, h62, h63]
   repeat' (first | apply And.intro | intro _)
   any_goals (first | (refine hK12 _ ?_; clear hK12) | omega | (simp_all <;> omega))
   refine swp_seq fun K13 hK13 => ?_
   refine swp_region ty_ok ?_
   try simp (maxSteps := 1000000) [h60, h61, h62, h63]
   repeat' (first | apply And.intro | intro _)
   any_goals (first | (refine hK13 _ ?_; clear hK13) | omega | (simp_all <;> omega))
   refine swp_ret ?_
   simp [fnPostH, PV.inR, inR1, PV.inL, inL1, Blk.inL, Cells.inL, put_at, Try.results68, resP, tupOf]
   rw [tkN_13 (by assumption)]; exact ⟨rfl, rfl⟩
 ·clear hC5
  try simp at hc5
  refine swp_skip ?_
  try simp only [thn, inBlk]
  refine hK3 _ ?_; clear hK3
  refine swp_seq fun K14 hK14 => ?_
  refine swp_seq fun K15 hK15 => ?_
  refine swp_region ty_ok ?_
  refine runs_cut 9 fun R16 hR16 => ?_
  try simp (maxSteps := 1000000) [h60, h61, h62, h63, List.take_succ_cons, List.take_zero, List.drop_succ_cons, List.drop_zero]
  repeat' (first | apply And.intro | intro _)
  any_goals (first | (refine hR16 _ ?_; clear hR16) | omega | (simp_all <;> omega))
  refine runs_cut 9 fun R17 hR17 => ?_
  try simp (maxSteps := 1000000) [h60, h61, h62, h63, List.take_succ_cons, List.take_zero, List.drop_succ_cons, List.drop_zero]
  repeat' (first | apply And.intro | intro _)
  any_goals (first | (refine hR17 _ ?_; clear hR17) | omega | (simp_all <;> omega))
  try simp (maxSteps := 1000000) [h60, h61, h62, h63, List.take_succ_cons, List.take_zero, List.drop_succ_cons, List.drop_zero]
  repeat' (first | apply And.intro | intro _)
  any_goals (first | (refine hK15 _ ?_; clear hK15) | omega | (simp_all <;> omega))
  refine swp_if fun C18 hC18 => ?_
  try simp (maxSteps := 1000000) [h60, h61, h62, h63]
  refine hC18 _ (fun hc18 => ?_) (fun hc18 => ?_)
  ·exfalso
   have h := hc18
   simp at h
   omega
  ·clear hC18
   try simp at hc18
   refine swp_skip ?_
   try simp only [thn, inBlk]
   refine hK14 _ ?_; clear hK14
   refine swp_seq fun K19 hK19 => ?_
   refine swp_region ty_ok ?_
   try simp (maxSteps := 1000000) [h60, h61, h62, h63]
   repeat' (first | apply And.intro | intro _)
   any_goals (first | (refine hK19 _ ?_; clear hK19) | omega | (simp_all <;> omega))
   refine swp_seq fun K20 hK20 => ?_
   refine swp_region ty_ok ?_
   try simp (maxSteps := 1000000) [h60, h61, h62, h63]
   repeat' (first | apply And.intro | intro _)
   any_goals (first | (refine hK20 _ ?_; clear hK20) | omega | (simp_all <;> omega))
   refine swp_ret ?_
   simp [fnPostH, PV.inR, inR1, PV.inL, inL1, Blk.inL, Cells.inL, put_at, Try.results68, resP, tupOf]
   rw [tkN_n (by assumption)]; exact ⟨rfl, rfl⟩

theorem take_no2 (nn : Nat) (a : Int × Int) (b n : Int) (ha : AOk a) (h : tkB a b n = false) : HCall Try.prog 68 [.ptr 2 0 0 1, .int .i64 b, .int .i64 n] [(2, some ⟨.rows 2 [[.int .i64 (a).1, .int .i64 (a).2]], true, 109⟩)] nn (.bool false) [] := by
 have hA := ha
 unfold AOk at hA
 have h60 : IntKind.i64.wrap (a.1 - 60) = a.1 - 60 := w64 (by omega)
 have h61 : IntKind.i64.wrap (a.1 + 60) = a.1 + 60 := w64 (by omega)
 have h62 : IntKind.i64.wrap (a.2 - 60) = a.2 - 60 := w64 (by omega)
 have h63 : IntKind.i64.wrap (a.2 + 60) = a.2 + 60 := w64 (by omega)
 obtain ⟨hq1, hq2⟩ := tkB_false h
 refine hcall_body ty_ok Try.func68 rfl (by rfl) (by simp) ?_
 rw [Try.ntmps68]
 refine swp_seq fun K1 hK1 => ?_
 refine swp_region ty_ok ?_
 try simp (maxSteps := 1000000) [h60, h61, h62, h63]
 repeat' (first | apply And.intro | intro _)
 any_goals (first | (refine hK1 _ ?_; clear hK1) | omega | (simp_all <;> omega))
 refine swp_seq fun K2 hK2 => ?_
 refine swp_region ty_ok ?_
 try simp (maxSteps := 1000000) [h60, h61, h62, h63]
 repeat' (first | apply And.intro | intro _)
 any_goals (first | (refine hK2 _ ?_; clear hK2) | omega | (simp_all <;> omega))
 refine swp_seq fun K3 hK3 => ?_
 refine swp_seq fun K4 hK4 => ?_
 refine swp_region ty_ok ?_
 try simp (maxSteps := 1000000) [h60, h61, h62, h63]
 repeat' (first | apply And.intro | intro _)
 any_goals (first | (refine hK4 _ ?_; clear hK4) | omega | (simp_all <;> omega))
 refine swp_if fun C5 hC5 => ?_
 try simp (maxSteps := 1000000) [h60, h61, h62, h63]
 refine hC5 _ (fun hc5 => ?_) (fun hc5 => ?_)
 ·clear hC5
  try simp at hc5
  refine swp_draw ty_ok mixed (ms := [0, 1, 3, 0, 8, 24, 56, 120, 7, 263, 1023]) (by kernel_rfl) ?_
  try simp (maxSteps := 1000000) [h60, h61, h62, h63]
  repeat' (first | apply And.intro | intro _)
  any_goals (first | kernel_rfl | (refine hK3 _ ?_; clear hK3) | omega | (simp_all <;> omega))
  refine swp_seq fun K7 hK7 => ?_
  refine swp_seq fun K8 hK8 => ?_
  refine swp_region ty_ok ?_
  refine runs_cut 9 fun R9 hR9 => ?_
  try simp (maxSteps := 1000000) [h60, h61, h62, h63, List.take_succ_cons, List.take_zero, List.drop_succ_cons, List.drop_zero]
  repeat' (first | apply And.intro | intro _)
  any_goals (first | (refine hR9 _ ?_; clear hR9) | omega | (simp_all <;> omega))
  refine runs_cut 9 fun R10 hR10 => ?_
  try simp (maxSteps := 1000000) [h60, h61, h62, h63, List.take_succ_cons, List.take_zero, List.drop_succ_cons, List.drop_zero]
  repeat' (first | apply And.intro | intro _)
  any_goals (first | (refine hR10 _ ?_; clear hR10) | omega | (simp_all <;> omega))
  try simp (maxSteps := 1000000) [h60, h61, h62, h63, List.take_succ_cons, List.take_zero, List.drop_succ_cons, List.drop_zero]
  repeat' (first | apply And.intro | intro _)
  any_goals (first | (refine hK8 _ ?_; clear hK8) | omega | (simp_all <;> omega))
  refine swp_if fun C11 hC11 => ?_
  try simp (maxSteps := 1000000) [h60, h61, h62, h63]
  refine hC11 _ (fun hc11 => ?_) (fun hc11 => ?_)
  ·clear hC11
   try simp at hc11
   refine swp_seq fun K12 hK12 => ?_
   refine swp_region ty_ok ?_
   try simp (maxSteps := 1000000) [h60, h61, h62, h63]
   repeat' (first | apply And.intro | intro _)
   any_goals (first | (refine hK12 _ ?_; clear hK12) | omega | (simp_all <;> omega))
   refine swp_ret ?_
   simp [fnPostH, PV.inR, inR1, PV.inL, inL1, Blk.inL, Cells.inL, put_at, Try.results68, resP, tupOf]
  ·exfalso
   have h := hc11
   simp at h
   omega
 ·clear hC5
  try simp at hc5
  refine swp_skip ?_
  try simp only [thn, inBlk]
  refine hK3 _ ?_; clear hK3
  refine swp_seq fun K13 hK13 => ?_
  refine swp_seq fun K14 hK14 => ?_
  refine swp_region ty_ok ?_
  refine runs_cut 9 fun R15 hR15 => ?_
  try simp (maxSteps := 1000000) [h60, h61, h62, h63, List.take_succ_cons, List.take_zero, List.drop_succ_cons, List.drop_zero]
  repeat' (first | apply And.intro | intro _)
  any_goals (first | (refine hR15 _ ?_; clear hR15) | omega | (simp_all <;> omega))
  refine runs_cut 9 fun R16 hR16 => ?_
  try simp (maxSteps := 1000000) [h60, h61, h62, h63, List.take_succ_cons, List.take_zero, List.drop_succ_cons, List.drop_zero]
  repeat' (first | apply And.intro | intro _)
  any_goals (first | (refine hR16 _ ?_; clear hR16) | omega | (simp_all <;> omega))
  try simp (maxSteps := 1000000) [h60, h61, h62, h63, List.take_succ_cons, List.take_zero, List.drop_succ_cons, List.drop_zero]
  repeat' (first | apply And.intro | intro _)
  any_goals (first | (refine hK14 _ ?_; clear hK14) | omega | (simp_all <;> omega))
  refine swp_if fun C17 hC17 => ?_
  try simp (maxSteps := 1000000) [h60, h61, h62, h63]
  refine hC17 _ (fun hc17 => ?_) (fun hc17 => ?_)
  ·clear hC17
   try simp at hc17
   refine swp_seq fun K18 hK18 => ?_
   refine swp_region ty_ok ?_
   try simp (maxSteps := 1000000) [h60, h61, h62, h63]
   repeat' (first | apply And.intro | intro _)
   any_goals (first | (refine hK18 _ ?_; clear hK18) | omega | (simp_all <;> omega))
   refine swp_ret ?_
   simp [fnPostH, PV.inR, inR1, PV.inL, inL1, Blk.inL, Cells.inL, put_at, Try.results68, resP, tupOf]
  ·exfalso
   have h := hc17
   simp at h
   omega

theorem take_yes4 (nn : Nat) (a : Int × Int) (b n : Int) (ha : AOk a) (h : tkB a b n = true) : HCall Try.prog 68 [.ptr 4 0 0 1, .int .i64 b, .int .i64 n] [(4, some ⟨.rows 2 [[.int .i64 (a).1, .int .i64 (a).2]], true, 109⟩)] nn (.bool true) [(4, some ⟨.rows 2 [[.int .i64 (tkN a b n).1, .int .i64 (tkN a b n).2]], true, 109⟩)] := by
 have hA := ha
 unfold AOk at hA
 have h60 : IntKind.i64.wrap (a.1 - 60) = a.1 - 60 := w64 (by omega)
 have h61 : IntKind.i64.wrap (a.1 + 60) = a.1 + 60 := w64 (by omega)
 have h62 : IntKind.i64.wrap (a.2 - 60) = a.2 - 60 := w64 (by omega)
 have h63 : IntKind.i64.wrap (a.2 + 60) = a.2 + 60 := w64 (by omega)
 obtain ⟨hq1, hq2⟩ := tkB_true h
 refine hcall_body ty_ok Try.func68 rfl (by rfl) (by simp) ?_
 rw [Try.ntmps68]
 refine swp_seq fun K1 hK1 => ?_
 refine swp_region ty_ok ?_
 try simp (maxSteps := 1000000) [h60, h61, h62, h63]
 repeat' (first | apply And.intro | intro _)
 any_goals (first | (refine hK1 _ ?_; clear hK1) | omega | (simp_all <;> omega))
 refine swp_seq fun K2 hK2 => ?_
 refine swp_region ty_ok ?_
 try simp (maxSteps := 1000000) [h60, h61, h62, h63]
 repeat' (first | apply And.intro | intro _)
 any_goals (first | (refine hK2 _ ?_; clear hK2) | omega | (simp_all <;> omega))
 refine swp_seq fun K3 hK3 => ?_
 refine swp_seq fun K4 hK4 => ?_
 refine swp_region ty_ok ?_
 try simp (maxSteps := 1000000) [h60, h61, h62, h63]
 repeat' (first | apply And.intro | intro _)
 any_goals (first | (refine hK4 _ ?_; clear hK4) | omega | (simp_all <;> omega))
 refine swp_if fun C5 hC5 => ?_
 try simp (maxSteps := 1000000) [h60, h61, h62, h63]
 refine hC5 _ (fun hc5 => ?_) (fun hc5 => ?_)
 ·clear hC5
  try simp at hc5
  refine swp_draw ty_ok mixed (ms := [0, 1, 3, 0, 8, 24, 56, 120, 7, 263, 1023]) (by kernel_rfl) ?_
  try simp (maxSteps := 1000000) [h60, h61, h62, h63]
  repeat' (first | apply And.intro | intro _)
  any_goals (first | kernel_rfl | (refine hK3 _ ?_; clear hK3) | omega | (simp_all <;> omega))
  refine swp_seq fun K7 hK7 => ?_
  refine swp_seq fun K8 hK8 => ?_
  refine swp_region ty_ok ?_
  refine runs_cut 9 fun R9 hR9 => ?_
  try simp (maxSteps := 1000000) [h60, h61, h62, h63, List.take_succ_cons, List.take_zero, List.drop_succ_cons, List.drop_zero]
  repeat' (first | apply And.intro | intro _)
  any_goals (first | (refine hR9 _ ?_; clear hR9) | omega | (simp_all <;> omega))
  refine runs_cut 9 fun R10 hR10 => ?_
  try simp (maxSteps := 1000000) [h60, h61, h62, h63, List.take_succ_cons, List.take_zero, List.drop_succ_cons, List.drop_zero]
  repeat' (first | apply And.intro | intro _)
  any_goals (first | (refine hR10 _ ?_; clear hR10) | omega | (simp_all <;> omega))
  try simp (maxSteps := 1000000) [h60, h61, h62, h63, List.take_succ_cons, List.take_zero, List.drop_succ_cons, List.drop_zero]
  repeat' (first | apply And.intro | intro _)
  any_goals (first | (refine hK8 _ ?_; clear hK8) | omega | (simp_all <;> omega))
  refine swp_if fun C11 hC11 => ?_
  try simp (maxSteps := 1000000) [h60, h61, h62, h63]
  refine hC11 _ (fun hc11 => ?_) (fun hc11 => ?_)
  ·exfalso
   have h := hc11
   simp at h
   omega
  ·clear hC11
   try simp at hc11
   refine swp_skip ?_
   try simp only [thn, inBlk]
   refine hK7 _ ?_; clear hK7
   refine swp_seq fun K12 hK12 => ?_
   refine swp_region ty_ok ?_
   try simp (maxSteps := 1000000) [h60, h61, h62, h63]
   repeat' (first | apply And.intro | intro _)
   any_goals (first | (refine hK12 _ ?_; clear hK12) | omega | (simp_all <;> omega))
   refine swp_seq fun K13 hK13 => ?_
   refine swp_region ty_ok ?_
   try simp (maxSteps := 1000000) [h60, h61, h62, h63]
   repeat' (first | apply And.intro | intro _)
   any_goals (first | (refine hK13 _ ?_; clear hK13) | omega | (simp_all <;> omega))
   refine swp_ret ?_
   simp [fnPostH, PV.inR, inR1, PV.inL, inL1, Blk.inL, Cells.inL, put_at, Try.results68, resP, tupOf]
   rw [tkN_13 (by assumption)]; exact ⟨rfl, rfl⟩
 ·clear hC5
  try simp at hc5
  refine swp_skip ?_
  try simp only [thn, inBlk]
  refine hK3 _ ?_; clear hK3
  refine swp_seq fun K14 hK14 => ?_
  refine swp_seq fun K15 hK15 => ?_
  refine swp_region ty_ok ?_
  refine runs_cut 9 fun R16 hR16 => ?_
  try simp (maxSteps := 1000000) [h60, h61, h62, h63, List.take_succ_cons, List.take_zero, List.drop_succ_cons, List.drop_zero]
  repeat' (first | apply And.intro | intro _)
  any_goals (first | (refine hR16 _ ?_; clear hR16) | omega | (simp_all <;> omega))
  refine runs_cut 9 fun R17 hR17 => ?_
  try simp (maxSteps := 1000000) [h60, h61, h62, h63, List.take_succ_cons, List.take_zero, List.drop_succ_cons, List.drop_zero]
  repeat' (first | apply And.intro | intro _)
  any_goals (first | (refine hR17 _ ?_; clear hR17) | omega | (simp_all <;> omega))
  try simp (maxSteps := 1000000) [h60, h61, h62, h63, List.take_succ_cons, List.take_zero, List.drop_succ_cons, List.drop_zero]
  repeat' (first | apply And.intro | intro _)
  any_goals (first | (refine hK15 _ ?_; clear hK15) | omega | (simp_all <;> omega))
  refine swp_if fun C18 hC18 => ?_
  try simp (maxSteps := 1000000) [h60, h61, h62, h63]
  refine hC18 _ (fun hc18 => ?_) (fun hc18 => ?_)
  ·exfalso
   have h := hc18
   simp at h
   omega
  ·clear hC18
   try simp at hc18
   refine swp_skip ?_
   try simp only [thn, inBlk]
   refine hK14 _ ?_; clear hK14
   refine swp_seq fun K19 hK19 => ?_
   refine swp_region ty_ok ?_
   try simp (maxSteps := 1000000) [h60, h61, h62, h63]
   repeat' (first | apply And.intro | intro _)
   any_goals (first | (refine hK19 _ ?_; clear hK19) | omega | (simp_all <;> omega))
   refine swp_seq fun K20 hK20 => ?_
   refine swp_region ty_ok ?_
   try simp (maxSteps := 1000000) [h60, h61, h62, h63]
   repeat' (first | apply And.intro | intro _)
   any_goals (first | (refine hK20 _ ?_; clear hK20) | omega | (simp_all <;> omega))
   refine swp_ret ?_
   simp [fnPostH, PV.inR, inR1, PV.inL, inL1, Blk.inL, Cells.inL, put_at, Try.results68, resP, tupOf]
   rw [tkN_n (by assumption)]; exact ⟨rfl, rfl⟩

theorem take_no4 (nn : Nat) (a : Int × Int) (b n : Int) (ha : AOk a) (h : tkB a b n = false) : HCall Try.prog 68 [.ptr 4 0 0 1, .int .i64 b, .int .i64 n] [(4, some ⟨.rows 2 [[.int .i64 (a).1, .int .i64 (a).2]], true, 109⟩)] nn (.bool false) [] := by
 have hA := ha
 unfold AOk at hA
 have h60 : IntKind.i64.wrap (a.1 - 60) = a.1 - 60 := w64 (by omega)
 have h61 : IntKind.i64.wrap (a.1 + 60) = a.1 + 60 := w64 (by omega)
 have h62 : IntKind.i64.wrap (a.2 - 60) = a.2 - 60 := w64 (by omega)
 have h63 : IntKind.i64.wrap (a.2 + 60) = a.2 + 60 := w64 (by omega)
 obtain ⟨hq1, hq2⟩ := tkB_false h
 refine hcall_body ty_ok Try.func68 rfl (by rfl) (by simp) ?_
 rw [Try.ntmps68]
 refine swp_seq fun K1 hK1 => ?_
 refine swp_region ty_ok ?_
 try simp (maxSteps := 1000000) [h60, h61, h62, h63]
 repeat' (first | apply And.intro | intro _)
 any_goals (first | (refine hK1 _ ?_; clear hK1) | omega | (simp_all <;> omega))
 refine swp_seq fun K2 hK2 => ?_
 refine swp_region ty_ok ?_
 try simp (maxSteps := 1000000) [h60, h61, h62, h63]
 repeat' (first | apply And.intro | intro _)
 any_goals (first | (refine hK2 _ ?_; clear hK2) | omega | (simp_all <;> omega))
 refine swp_seq fun K3 hK3 => ?_
 refine swp_seq fun K4 hK4 => ?_
 refine swp_region ty_ok ?_
 try simp (maxSteps := 1000000) [h60, h61, h62, h63]
 repeat' (first | apply And.intro | intro _)
 any_goals (first | (refine hK4 _ ?_; clear hK4) | omega | (simp_all <;> omega))
 refine swp_if fun C5 hC5 => ?_
 try simp (maxSteps := 1000000) [h60, h61, h62, h63]
 refine hC5 _ (fun hc5 => ?_) (fun hc5 => ?_)
 ·clear hC5
  try simp at hc5
  refine swp_draw ty_ok mixed (ms := [0, 1, 3, 0, 8, 24, 56, 120, 7, 263, 1023]) (by kernel_rfl) ?_
  try simp (maxSteps := 1000000) [h60, h61, h62, h63]
  repeat' (first | apply And.intro | intro _)
  any_goals (first | kernel_rfl | (refine hK3 _ ?_; clear hK3) | omega | (simp_all <;> omega))
  refine swp_seq fun K7 hK7 => ?_
  refine swp_seq fun K8 hK8 => ?_
  refine swp_region ty_ok ?_
  refine runs_cut 9 fun R9 hR9 => ?_
  try simp (maxSteps := 1000000) [h60, h61, h62, h63, List.take_succ_cons, List.take_zero, List.drop_succ_cons, List.drop_zero]
  repeat' (first | apply And.intro | intro _)
  any_goals (first | (refine hR9 _ ?_; clear hR9) | omega | (simp_all <;> omega))
  refine runs_cut 9 fun R10 hR10 => ?_
  try simp (maxSteps := 1000000) [h60, h61, h62, h63, List.take_succ_cons, List.take_zero, List.drop_succ_cons, List.drop_zero]
  repeat' (first | apply And.intro | intro _)
  any_goals (first | (refine hR10 _ ?_; clear hR10) | omega | (simp_all <;> omega))
  try simp (maxSteps := 1000000) [h60, h61, h62, h63, List.take_succ_cons, List.take_zero, List.drop_succ_cons, List.drop_zero]
  repeat' (first | apply And.intro | intro _)
  any_goals (first | (refine hK8 _ ?_; clear hK8) | omega | (simp_all <;> omega))
  refine swp_if fun C11 hC11 => ?_
  try simp (maxSteps := 1000000) [h60, h61, h62, h63]
  refine hC11 _ (fun hc11 => ?_) (fun hc11 => ?_)
  ·clear hC11
   try simp at hc11
   refine swp_seq fun K12 hK12 => ?_
   refine swp_region ty_ok ?_
   try simp (maxSteps := 1000000) [h60, h61, h62, h63]
   repeat' (first | apply And.intro | intro _)
   any_goals (first | (refine hK12 _ ?_; clear hK12) | omega | (simp_all <;> omega))
   refine swp_ret ?_
   simp [fnPostH, PV.inR, inR1, PV.inL, inL1, Blk.inL, Cells.inL, put_at, Try.results68, resP, tupOf]
  ·exfalso
   have h := hc11
   simp at h
   omega
 ·clear hC5
  try simp at hc5
  refine swp_skip ?_
  try simp only [thn, inBlk]
  refine hK3 _ ?_; clear hK3
  refine swp_seq fun K13 hK13 => ?_
  refine swp_seq fun K14 hK14 => ?_
  refine swp_region ty_ok ?_
  refine runs_cut 9 fun R15 hR15 => ?_
  try simp (maxSteps := 1000000) [h60, h61, h62, h63, List.take_succ_cons, List.take_zero, List.drop_succ_cons, List.drop_zero]
  repeat' (first | apply And.intro | intro _)
  any_goals (first | (refine hR15 _ ?_; clear hR15) | omega | (simp_all <;> omega))
  refine runs_cut 9 fun R16 hR16 => ?_
  try simp (maxSteps := 1000000) [h60, h61, h62, h63, List.take_succ_cons, List.take_zero, List.drop_succ_cons, List.drop_zero]
  repeat' (first | apply And.intro | intro _)
  any_goals (first | (refine hR16 _ ?_; clear hR16) | omega | (simp_all <;> omega))
  try simp (maxSteps := 1000000) [h60, h61, h62, h63, List.take_succ_cons, List.take_zero, List.drop_succ_cons, List.drop_zero]
  repeat' (first | apply And.intro | intro _)
  any_goals (first | (refine hK14 _ ?_; clear hK14) | omega | (simp_all <;> omega))
  refine swp_if fun C17 hC17 => ?_
  try simp (maxSteps := 1000000) [h60, h61, h62, h63]
  refine hC17 _ (fun hc17 => ?_) (fun hc17 => ?_)
  ·clear hC17
   try simp at hc17
   refine swp_seq fun K18 hK18 => ?_
   refine swp_region ty_ok ?_
   try simp (maxSteps := 1000000) [h60, h61, h62, h63]
   repeat' (first | apply And.intro | intro _)
   any_goals (first | (refine hK18 _ ?_; clear hK18) | omega | (simp_all <;> omega))
   refine swp_ret ?_
   simp [fnPostH, PV.inR, inR1, PV.inL, inL1, Blk.inL, Cells.inL, put_at, Try.results68, resP, tupOf]
  ·exfalso
   have h := hc17
   simp at h
   omega

theorem bands_ok (n : Nat) (w : List Sc) : HCall Try.prog 67 [.ro (.rows 2 (w.map Sc.row))] [] n (.fn 104 [.ptr n 0 0 1]) [(n, some ⟨.rows 1 [[.ro (.rows 2 (w.map Sc.row))]], true, 61⟩)] := by
 refine hcall_body ty_ok Try.func67 rfl (by rfl) (by simp) ?_
 rw [Try.ntmps67]
 refine swp_seq fun K1 hK1 => ?_
 refine swp_region ty_ok ?_
 try simp (maxSteps := 1000000)
 repeat' (first | apply And.intro | intro _)
 any_goals (first | (refine hK1 _ ?_; clear hK1) | omega | (simp_all <;> omega))
 refine swp_seq fun K2 hK2 => ?_
 refine swp_region ty_ok ?_
 try simp (maxSteps := 1000000)
 repeat' (first | apply And.intro | intro _)
 any_goals (first | (refine hK2 _ ?_; clear hK2) | omega | (simp_all <;> omega))
 refine swp_ret ?_
 simp [fnPostH, PV.inR, inR1, PV.inL, inL1, Blk.inL, Cells.inL, put_at, Try.results67, resP, tupOf]

set_option maxHeartbeats 2000000 in
theorem books_ok (ws : List Sc) (hb : ∀ x ∈ ws, badS x = false) (hl : ws.length ≤ 40) : PCall Try.prog 108 [.ro (.rows 2 (ws.map Sc.row))] (.ro (.ints .i64 (bkR ws))) := by
 refine pcall_body ty_ok Try.func108 rfl (by rfl) (by simp) ?_
 rw [Try.ntmps108]
 refine swp_seq fun K1 hK1 => ?_
 refine swp_region ty_ok ?_
 try simp (maxSteps := 1000000)
 repeat' (first | apply And.intro | intro _)
 any_goals (first | (refine hK1 _ ?_; clear hK1) | omega | (simp_all <;> omega))
 refine swp_seq fun K2 hK2 => ?_
 refine swp_region ty_ok ?_
 try simp (maxSteps := 1000000)
 repeat' (first | apply And.intro | intro _)
 any_goals (first | (refine hK2 _ ?_; clear hK2) | omega | (simp_all <;> omega))
 refine swp_seq fun K3 hK3 => ?_
 refine swp_seq fun K4 hK4 => ?_
 refine swp_region ty_ok ?_
 try simp (maxSteps := 1000000)
 repeat' (first | apply And.intro | intro _)
 any_goals (first | (refine hK4 _ ?_; clear hK4) | omega | (simp_all <;> omega))
 refine swp_block ?_
 refine swp_own 3 3 (by simp [getT]; rfl) rfl ?_
 refine swp_loop 1 (fun m_ s_ => ∃ (i : Nat), (i ≤ ws.length) ∧ ((bkR (ws.take i)).length ≤ 40 * i) ∧ s_ = ⟨[(0, .ro (.rows 2 (ws.map Sc.row))), (3, .sl 0 0 (bkR (ws.take i)).length (bkR (ws.take i)).length), (4, .int .i64 (i : Nat))], [(0, some ⟨.ints .i64 (bkR (ws.take i)), false, 3⟩)], 1⟩ ∧ m_ = ws.length - i) _ ⟨[(0, .ro (.rows 2 (ws.map Sc.row))), (3, .sl 0 0 (bkR (ws.take 0)).length (bkR (ws.take 0)).length), (4, .int .i64 (0 : Nat))], [(0, some ⟨.ints .i64 (bkR (ws.take 0)), false, 3⟩)], 1⟩ ⟨by simp [getT, PV.lo, lo1, bkR], by simp [getH, Blk.lo, Cells.lo, lo1, bkR], rfl, by omega⟩ ⟨(0), by omega, by simp [bkR], rfl, rfl⟩ ?_
 rintro m_ s_ ⟨i, hL5_0, hL5_1, rfl, rfl⟩ KL5 hL5
 have hiw : IntKind.i64.wrap ((i : Int) + 1) = (((i + 1 : Nat)) : Int) := wnext (by omega)
 refine swp_seq fun K6 hK6 => ?_
 refine swp_seq fun K7 hK7 => ?_
 refine swp_region ty_ok ?_
 try simp (maxSteps := 1000000)
 repeat' (first | apply And.intro | intro _)
 any_goals (first | (refine hK7 _ ?_; clear hK7) | omega | (simp_all <;> omega))
 refine swp_if fun C8 hC8 => ?_
 try simp (maxSteps := 1000000)
 refine hC8 _ (fun hc8 => ?_) (fun hc8 => ?_)
 ·clear hC8
  try simp at hc8
  refine swp_skip ?_
  try simp only [thn, inBlk]
  refine hK6 _ ?_; clear hK6
  refine swp_seq fun K9 hK9 => ?_
  refine swp_block ?_
  refine swp_seq fun K10 hK10 => ?_
  refine swp_region ty_ok ?_
  try simp (maxSteps := 1000000)
  repeat' (first | apply And.intro | intro _)
  any_goals (first | (refine hK10 _ ?_; clear hK10) | omega | (simp_all <;> omega))
  refine swp_block ?_
  have hbi := badS_no (hb _ (mem_at (w := ws) (j := i) (by omega)))
  have hbi2 : 1 ≤ (ws[i]?.getD default).len ∧ (ws[i]?.getD default).len ≤ 40 := hbi.1
  have hsu := bkR_succ (l := ws) (i := i) (by omega)
  refine swp_loop 1 (fun m_ s_ => ∃ (k : Nat), ((k : Int) ≤ (ws[i]?.getD default).len) ∧ s_ = ⟨[(0, .ro (.rows 2 (ws.map Sc.row))), (3, .sl 0 0 ((bkR (ws.take i)).length + k) ((bkR (ws.take i)).length + k)), (4, .int .i64 (i : Nat)), (5, .int .i64 (k : Nat))], [(0, some ⟨.ints .i64 (bkR (ws.take i) ++ List.replicate k (ws[i]?.getD default).book), false, 3⟩)], 1⟩ ∧ m_ = (ws[i]?.getD default).len.toNat - k) _ ⟨[(0, .ro (.rows 2 (ws.map Sc.row))), (3, .sl 0 0 ((bkR (ws.take i)).length + 0) ((bkR (ws.take i)).length + 0)), (4, .int .i64 (i : Nat)), (5, .int .i64 (0 : Nat))], [(0, some ⟨.ints .i64 (bkR (ws.take i) ++ List.replicate 0 (ws[i]?.getD default).book), false, 3⟩)], 1⟩ ⟨by simp [getT, PV.lo, lo1], by simp [getH, Blk.lo, Cells.lo, lo1], rfl, by omega⟩ ⟨(0), by (first | omega | (simp_all <;> omega)), rfl, rfl⟩ ?_
  rintro m_ s_ ⟨k, hL11_0, rfl, rfl⟩ KL11 hL11
  have hkw : IntKind.i64.wrap ((k : Int) + 1) = (((k + 1 : Nat)) : Int) := wnext (by omega)
  refine swp_seq fun K12 hK12 => ?_
  refine swp_seq fun K13 hK13 => ?_
  have hri := sc_at (ws := ws) (k := i) (by omega)
  refine swp_region ty_ok ?_
  try simp (maxSteps := 1000000) [hri]
  repeat' (first | apply And.intro | intro _)
  any_goals (first | (refine hK13 _ ?_; clear hK13) | omega | (simp_all <;> omega))
  refine swp_if fun C14 hC14 => ?_
  try simp (maxSteps := 1000000) [hri]
  refine hC14 _ (fun hc14 => ?_) (fun hc14 => ?_)
  ·clear hC14
   try simp at hc14
   refine swp_skip ?_
   try simp only [thn, inBlk]
   refine hK12 _ ?_; clear hK12
   refine swp_seq fun K15 hK15 => ?_
   refine swp_block ?_
   have hri := sc_at (ws := ws) (k := i) (by omega)
   refine swp_region ty_ok ?_
   refine runs_cut 6 fun R16 hR16 => ?_
   try simp (maxSteps := 1000000) [hri, List.take_succ_cons, List.take_zero, List.drop_succ_cons, List.drop_zero]
   repeat' (first | apply And.intro | intro _)
   any_goals (first | (refine hR16 _ ?_; clear hR16) | omega | (simp_all <;> omega))
   refine runs_cut 1 fun R17 hR17 => ?_
   try simp (maxSteps := 1000000) [hri, List.take_succ_cons, List.take_zero, List.drop_succ_cons, List.drop_zero]
   repeat' (first | apply And.intro | intro _)
   any_goals (first | (refine Or.inl (hR17 _ ?_); clear hR17) | omega | (simp_all <;> omega))
   try simp (maxSteps := 1000000) [hri, List.take_succ_cons, List.take_zero, List.drop_succ_cons, List.drop_zero]
   repeat' (first | apply And.intro | intro _)
   any_goals (first | (refine hK15 _ ?_; clear hK15) | omega | (simp_all <;> omega))
   refine swp_region ty_ok ?_
   try simp (maxSteps := 1000000)
   repeat' apply And.intro
   any_goals (try omega)
   refine hL11 _ ⟨[(0, .ro (.rows 2 (ws.map Sc.row))), (3, .sl 0 0 ((bkR (ws.take i)).length + (k + 1)) ((bkR (ws.take i)).length + (k + 1))), (4, .int .i64 (i : Nat)), (5, .int .i64 ((k + 1) : Nat))], [(0, some ⟨.ints .i64 (bkR (ws.take i) ++ List.replicate (k + 1) (ws[i]?.getD default).book), false, 3⟩)], 1⟩ _ ?_ ⟨(k + 1), by (first | omega | (simp_all <;> omega)), rfl, rfl⟩ ⟨by simp [getT, PV.lo, lo1, hkw]; omega, by simp [getH, Blk.lo, Cells.lo, lo1, List.replicate_succ'], rfl, by omega⟩
   omega
  ·clear hC14
   try simp at hc14
   refine swp_exit ?_
   simp [thn, inBlk]
   refine hK9 _ ?_; clear hK9
   refine swp_region ty_ok ?_
   try simp (maxSteps := 1000000)
   repeat' apply And.intro
   any_goals (try omega)
   refine hL5 _ ⟨[(0, .ro (.rows 2 (ws.map Sc.row))), (3, .sl 0 0 (bkR (ws.take (i + 1))).length (bkR (ws.take (i + 1))).length), (4, .int .i64 ((i + 1) : Nat))], [(0, some ⟨.ints .i64 (bkR (ws.take (i + 1))), false, 3⟩)], 1⟩ _ ?_ ⟨(i + 1), by omega, by (rw [hsu, List.length_append, List.length_replicate]; omega), rfl, rfl⟩ ⟨by (have hk : (ws[i]?.getD default).len.toNat = k := (by omega); rw [hk] at hsu; simp [getT, PV.lo, lo1, hiw, hsu]), by (have hk : (ws[i]?.getD default).len.toNat = k := (by omega); rw [hk] at hsu; simp [getH, Blk.lo, Cells.lo, lo1, hsu]), rfl, by omega⟩
   omega
 ·clear hC8
  try simp at hc8
  refine swp_exit ?_
  simp [thn, inBlk]
  refine hK3 _ ?_; clear hK3
  refine swp_seq fun K18 hK18 => ?_
  refine swp_region ty_ok ?_
  try simp (maxSteps := 1000000)
  repeat' (first | apply And.intro | intro _)
  any_goals (first | (refine hK18 _ ?_; clear hK18) | omega | (simp_all <;> omega))
  refine swp_ret ?_
  simp [fnPost, Try.results108, resP, tupOf]
  rw [List.take_of_length_le (by omega)]

end Go.Proofs.Ytgheplondkoedaa

