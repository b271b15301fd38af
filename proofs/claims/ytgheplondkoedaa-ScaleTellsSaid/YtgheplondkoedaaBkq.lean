import Derived.Test.YtgheplondkoedaaBke
namespace Go.Pv
set_option linter.unusedVariables false
set_option linter.unusedSimpArgs false
open Go
/-! ### What the books' functions say -/
def bE (i : Nat) : List Int := (bEnt i).map Int.ofNat
def bR (i : Nat) : List Int := (bRk i).map Int.ofNat
theorem map_of {l : List Nat} {r : Nat} : ((l.map Int.ofNat)[r]?.getD 0 : Int) = ((l[r]?.getD 0 : Nat) : Int) := by
  rw [List.getElem?_map]
  cases l[r]? <;> rfl
theorem mem_get {l : List Nat} {r n : Nat} (h : ∀ e ∈ l, e < n) (hr : r < l.length) : l[r]?.getD 0 < n := by
  rw [List.getElem?_eq_getElem hr]
  exact h _ (List.getElem_mem hr)
theorem BkE.elen {i : Nat} (h : BkE i) : (bE i).length = bMany i := by simp [bE, h.el]
theorem BkE.rlen {i : Nat} (h : BkE i) : (bR i).length = bMany i := by simp [bR, h.rl]
theorem BkE.ea {i r : Nat} (h : BkE i) (hr : r < bMany i) : (bE i)[r]?.getD 0 = (((bEnt i)[r]?.getD 0 : Nat) : Int) ∧ (bEnt i)[r]?.getD 0 < bMany i := ⟨map_of, mem_get h.eb (by rw [h.el]; exact hr)⟩
theorem BkE.ra {i r : Nat} (h : BkE i) (hr : r < bMany i) : (bR i)[r]?.getD 0 = (((bRk i)[r]?.getD 0 : Nat) : Int) ∧ (bRk i)[r]?.getD 0 < bMany i := ⟨map_of, mem_get h.rb (by rw [h.rl]; exact hr)⟩
theorem lex_iff {i a b : Nat} : lex i a b = true ↔ bSz i a < bSz i b ∨ bSz i a = bSz i b ∧ a < b := by unfold lex; simp
theorem lex_trans {i a b c : Nat} (h1 : lex i a b = true) (h2 : lex i b c = true) : lex i a c = true := by
  rw [lex_iff] at *
  omega
theorem BkE.lt {i : Nat} (h : BkE i) (r : Nat) : ∀ d, r + d + 1 < bMany i → lex i ((bEnt i)[r]?.getD 0) ((bEnt i)[r + d + 1]?.getD 0) = true
  | 0, hr => h.srt r hr
  | d + 1, hr => lex_trans (h.lt r d (by omega)) (h.srt (r + d + 1) (by omega))
theorem BkE.rk_lt {i a b : Nat} (h : BkE i) (ha : a < bMany i) (hb : b < bMany i) (hl : lex i a b = true) : (bRk i)[a]?.getD 0 < (bRk i)[b]?.getD 0 := by
  have h1 := (h.ra ha).2
  have h2 := (h.ra hb).2
  have e1 := h.re a ha
  have e2 := h.re b hb
  by_cases hlt : (bRk i)[a]?.getD 0 < (bRk i)[b]?.getD 0
  · exact hlt
  · exfalso
    by_cases he : (bRk i)[b]?.getD 0 = (bRk i)[a]?.getD 0
    · rw [he, e1] at e2
      subst e2
      rw [lex_iff] at hl
      omega
    · have h3 := h.lt ((bRk i)[b]?.getD 0) ((bRk i)[a]?.getD 0 - (bRk i)[b]?.getD 0 - 1) (by omega)
      rw [show (bRk i)[b]?.getD 0 + ((bRk i)[a]?.getD 0 - (bRk i)[b]?.getD 0 - 1) + 1 = (bRk i)[a]?.getD 0 by omega, e1, e2] at h3
      rw [lex_iff] at hl h3
      omega
structure CkN (i : Nat) (es rs : List Int) (r : Nat) : Prop where
  b : 0 ≤ es[r]?.getD 0 ∧ es[r]?.getD 0 < rs.length
  k : rs[(es[r]?.getD 0).toNat]?.getD 0 = r
  s : 0 < r → ¬ (fzB i (es[r]?.getD 0) < fzB i (es[r - 1]?.getD 0) ∨ fzB i (es[r - 1]?.getD 0) = fzB i (es[r]?.getD 0) ∧ es[r]?.getD 0 < es[r - 1]?.getD 0)
theorem fzB_nat {i e : Nat} (h : e < bMany i) : fzB i (e : Int) = bSz i e := by
  unfold fzB
  rw [if_pos (by omega)]
  rfl
theorem rgt_one {i r : Nat} (h : BkE i) (hr : r < bMany i) : CkN i (bE i) (bR i) r := by
  obtain ⟨e1, e2⟩ := h.ea hr
  refine ⟨by rw [e1, h.rlen]; omega, ?_, fun h0 => ?_⟩
  · rw [e1, Int.toNat_natCast, (h.ra e2).1, h.er r hr]
  · obtain ⟨f1, f2⟩ := h.ea (r := r - 1) (by omega)
    have hs := h.srt (r - 1) (by omega)
    rw [show r - 1 + 1 = r by omega, lex_iff] at hs
    rw [e1, f1, fzB_nat e2, fzB_nat f2]
    omega
theorem rgt_all {i : Nat} {es rs : List Int} (h : BkE i) (h1 : es.length = bMany i) (h2 : rs.length = bMany i) (hc : ∀ r < bMany i, CkN i es rs r) : es = bE i ∧ rs = bR i := by
  have key : ∀ r < bMany i, ∃ e : Nat, e < bMany i ∧ es[r]?.getD 0 = (e : Int) ∧ rs[e]?.getD 0 = r := fun r hr => by
    have c := hc r hr
    have := c.b
    have := c.k
    refine ⟨(es[r]?.getD 0).toNat, by omega, by omega, this⟩
  have stp : ∀ r, 0 < r → r < bMany i → ∀ a b : Nat, a < bMany i → b < bMany i → es[r - 1]?.getD 0 = (a : Int) → es[r]?.getD 0 = (b : Int) → lex i a b = true := fun r h0 hr a b ha hb e1 e2 => by
    have c := (hc r hr).s h0
    obtain ⟨a', ha', ea, ra⟩ := key (r - 1) (by omega)
    obtain ⟨b', hb', eb, rb⟩ := key r hr
    have : a' = a := by omega
    have : b' = b := by omega
    subst a' b'
    rw [e1, e2, fzB_nat ha, fzB_nat hb] at c
    rw [lex_iff]
    by_cases hab : a = b
    · subst hab
      rw [ra] at rb
      omega
    · omega
  have up : ∀ r < bMany i, ∀ e : Nat, e < bMany i → es[r]?.getD 0 = (e : Int) → r ≤ (bRk i)[e]?.getD 0 := by
    intro r
    induction r with
    | zero => intro _ e _ _; omega
    | succ r ih =>
      intro hr e he ee
      obtain ⟨a, ha, ea, _⟩ := key r (by omega)
      have h3 := ih (by omega) a ha ea
      have h4 := stp (r + 1) (by omega) hr a e ha he (by rw [Nat.add_sub_cancel]; exact ea) ee
      have h5 := h.rk_lt ha he h4
      omega
  have dn : ∀ d, ∀ r, r + d + 1 = bMany i → ∀ e : Nat, e < bMany i → es[r]?.getD 0 = (e : Int) → (bRk i)[e]?.getD 0 ≤ r := by
    intro d
    induction d with
    | zero =>
      intro r hr e he ee
      have := (h.ra he).2
      omega
    | succ d ih =>
      intro r hr e he ee
      obtain ⟨b, hb, eb, _⟩ := key (r + 1) (by omega)
      have h3 := ih (r + 1) (by omega) b hb eb
      have h4 := stp (r + 1) (by omega) (by omega) e b he hb (by rw [Nat.add_sub_cancel]; exact ee) eb
      have h5 := h.rk_lt he hb h4
      omega
  have fin : ∀ r < bMany i, ∀ e : Nat, e < bMany i → es[r]?.getD 0 = (e : Int) → e = (bEnt i)[r]?.getD 0 := fun r hr e he ee => by
    have a := up r hr e he ee
    have b := dn (bMany i - r - 1) r (by omega) e he ee
    rw [← h.re e he, show (bRk i)[e]?.getD 0 = r by omega]
  have hes : es = bE i := by
    refine List.ext_getElem (by rw [h1, h.elen]) fun r k1 k2 => ?_
    obtain ⟨e, he, ee, _⟩ := key r (by omega)
    have a := fin r (by omega) e he ee
    have b := (h.ea (r := r) (by omega)).1
    rw [List.getElem?_eq_getElem k1] at ee
    rw [List.getElem?_eq_getElem k2, ← a] at b
    exact ee.trans b.symm
  refine ⟨hes, List.ext_getElem (by rw [h2, h.rlen]) fun e k1 k2 => ?_⟩
  have hr := (h.ra (r := e) (by omega)).2
  have c := (hc _ hr).k
  rw [hes, (h.ea hr).1, h.re e (by omega), Int.toNat_natCast, List.getElem?_eq_getElem k1] at c
  have b := (h.ra (r := e) (by omega)).1
  rw [List.getElem?_eq_getElem k2] at b
  exact c.trans b.symm
/-- Is a book the one of its number. -/
def rightB (id p : Int) (es rs : List Int) : Bool := decide (1 ≤ id ∧ id ≤ 12 ∧ p = bPlain id.toNat ∧ es = bE id.toNat ∧ rs = bR id.toNat)
theorem right_iff {id p : Int} {es rs : List Int} : rightB id p es rs = true ↔ ∃ i : Nat, id = i ∧ 1 ≤ i ∧ i ≤ 12 ∧ p = bPlain i ∧ es = bE i ∧ rs = bR i := by
  unfold rightB
  rw [decide_eq_true_eq]
  constructor
  · rintro ⟨h1, h2, h3, h4, h5⟩
    exact ⟨id.toNat, by omega, by omega, by omega, h3, h4, h5⟩
  · rintro ⟨i, rfl, h1, h2, h3, h4, h5⟩
    exact ⟨by omega, by omega, h3, h4, h5⟩
/-! ### Entries and their values -/
def inR (i : Nat) (v : Int) : Bool := decide (bLow i ≤ v ∧ v ≤ bHigh i)
def entN (i : Nat) (vs : List Int) : Nat := vs.foldl (fun n v => n * bWide i + (v - bLow i).toNat) 0
theorem entN_snoc (i : Nat) (vs : List Int) (v : Int) : entN i (vs ++ [v]) = entN i vs * bWide i + (v - bLow i).toNat := by simp [entN]
theorem snocI {P : List Int → Prop} (h0 : P []) (hs : ∀ xs x, P xs → P (xs ++ [x])) (xs : List Int) : P xs := by
  have : ∀ ys : List Int, P ys.reverse := fun ys => by
    induction ys with
    | nil => exact h0
    | cons y ys ih => rw [List.reverse_cons]; exact hs _ _ ih
  simpa using this xs.reverse
theorem entN_bd {i : Nat} (hB : BkOk i) (vs : List Int) : (∀ v ∈ vs, inR i v = true) → entN i vs < bWide i ^ vs.length := by
  induction vs using snocI with
  | h0 => intro _; simp [entN]
  | hs vs v ih =>
    intro h
    have h1 := ih fun w hw => h w (by simp [hw])
    have h2 := h v (by simp)
    simp only [inR, decide_eq_true_eq] at h2
    have h3 := hB.wide
    rw [entN_snoc, List.length_append]
    show _ < bWide i ^ (vs.length + 1)
    rw [Nat.pow_succ]
    have h4 : (v - bLow i).toNat < bWide i := by omega
    calc entN i vs * bWide i + (v - bLow i).toNat < entN i vs * bWide i + bWide i := by omega
      _ = (entN i vs + 1) * bWide i := by rw [Nat.add_mul, Nat.one_mul]
      _ ≤ _ := Nat.mul_le_mul_right _ h1
def entE (i : Nat) (vs : List Int) : Int := if vs.length = bDim i then (if vs.all (inR i) = true then 0 else 2) else 4
def entV (i : Nat) (vs : List Int) : Int := if entE i vs = 0 then (entN i vs : Int) else 0
theorem rkP_set {N : Nat} {es : List Nat} {r : Nat} : (rkP N es r).set (es[r]?.getD 0) (r : Int) = rkP N es (r + 1) := by
  unfold rkP
  rw [List.range_succ, List.foldl_append]
  rfl
theorem rkP_len {N : Nat} {es : List Nat} : ∀ r, (rkP N es r).length = N
  | 0 => by simp [rkP]
  | r + 1 => by rw [← rkP_set, List.length_set, rkP_len r]
theorem rkP_zero {N : Nat} {es : List Nat} : rkP N es 0 = List.replicate N 0 := rfl
def fillE (N j : Nat) : List Int := (List.range j).map Int.ofNat ++ List.replicate (N - j) 0
theorem fillE_len {N j : Nat} (h : j ≤ N) : (fillE N j).length = N := by simp [fillE]; omega
theorem fillE_zero {N : Nat} : fillE N 0 = List.replicate N 0 := by simp [fillE]
theorem fillE_set {N j : Nat} (h : j < N) : (fillE N j).set j (j : Int) = fillE N (j + 1) := by
  unfold fillE
  rw [List.set_append_right _ _ (by simp), List.range_succ, List.map_append, List.length_map, List.length_range, Nat.sub_self, show N - j = (N - (j + 1)) + 1 by omega, List.replicate_succ]
  simp
theorem fillE_end {N : Nat} : fillE N N = (List.range N).map Int.ofNat := by simp [fillE]
end Go.Pv
namespace Go.Pv
open Go
theorem take_snocI {l : List Int} {j : Nat} (h : j < l.length) : l.take (j + 1) = l.take j ++ [l[j]?.getD 0] := by
  rw [List.take_succ_eq_append_getElem h, List.getElem?_eq_getElem h]
  rfl
theorem inR_snoc {i j : Nat} {vs : List Int} (h : j < vs.length) (ha : ∀ v ∈ vs.take j, inR i v = true) (hv : inR i (vs[j]?.getD 0) = true) : ∀ v ∈ vs.take (j + 1), inR i v = true := fun v hm => by
  rw [take_snocI h, List.mem_append, List.mem_singleton] at hm
  rcases hm with hm | rfl
  · exact ha v hm
  · exact hv
theorem entN_take {i j : Nat} {vs : List Int} (h : j < vs.length) : entN i (vs.take (j + 1)) = entN i (vs.take j) * bWide i + (vs[j]?.getD 0 - bLow i).toNat := by
  rw [take_snocI h, entN_snoc]
theorem entE_many {i : Nat} {vs : List Int} (h : ¬ vs.length = bDim i) : entE i vs = 4 ∧ entV i vs = 0 := by
  have : entE i vs = 4 := if_neg h
  exact ⟨this, by unfold entV; rw [this]; rfl⟩
theorem entE_arg {i j : Nat} {vs : List Int} (hl : vs.length = bDim i) (hj : j < vs.length) (h : ¬ inR i (vs[j]?.getD 0) = true) : entE i vs = 2 ∧ entV i vs = 0 := by
  have : entE i vs = 2 := by
    unfold entE
    rw [if_pos hl, if_neg]
    intro ha
    refine h (List.all_eq_true.1 ha _ ?_)
    rw [List.getElem?_eq_getElem hj]
    exact List.getElem_mem hj
  exact ⟨this, by unfold entV; rw [this]; rfl⟩
theorem entE_fin {i : Nat} {vs : List Int} (hl : vs.length = bDim i) (h : ∀ v ∈ vs, inR i v = true) : entE i vs = 0 ∧ entV i vs = (entN i vs : Int) := by
  have : entE i vs = 0 := by
    unfold entE
    rw [if_pos hl, if_pos (List.all_eq_true.2 h)]
  exact ⟨this, by unfold entV; rw [if_pos this]⟩
end Go.Pv
namespace Go.Pv
open Go
def rightI (i : Nat) (p : Int) (es rs : List Int) : Bool := decide (p = bPlain i ∧ es = bE i ∧ rs = bR i)
theorem rightI_no {i j : Nat} {p : Int} {es rs : List Int} (h : BkE i) (hj : j < bMany i) (hn : ¬ CkN i es rs j) : rightI i p es rs = false := decide_eq_false (by
  rintro ⟨_, rfl, rfl⟩
  exact hn (rgt_one h hj))
theorem rightI_len {i : Nat} {p : Int} {es rs : List Int} (h : BkE i) (hn : ¬ (p = bPlain i ∧ es.length = bMany i ∧ rs.length = bMany i)) : rightI i p es rs = false := decide_eq_false (by
  rintro ⟨h1, rfl, rfl⟩
  exact hn ⟨h1, h.elen, h.rlen⟩)
theorem rightI_yes {i : Nat} {p : Int} {es rs : List Int} (h : BkE i) (h0 : p = bPlain i) (h1 : es.length = bMany i) (h2 : rs.length = bMany i) (hc : ∀ r < bMany i, CkN i es rs r) : rightI i p es rs = true := decide_eq_true (by
  obtain ⟨a, b⟩ := rgt_all h h1 h2 hc
  exact ⟨h0, a, b⟩)
theorem ck_snoc {i j : Nat} {es rs : List Int} (h : ∀ r < j, CkN i es rs r) (hj : CkN i es rs j) : ∀ r < j + 1, CkN i es rs r := fun r hr => by
  by_cases he : r = j
  · rw [he]; exact hj
  · exact h r (by omega)
theorem rightB_eq {i : Nat} {p : Int} {es rs : List Int} (h1 : 1 ≤ i) (h2 : i ≤ 12) : rightB i p es rs = rightI i p es rs := by
  unfold rightB rightI
  rw [Int.toNat_natCast]
  have : (1 : Int) ≤ i := by omega
  have : (i : Int) ≤ 12 := by omega
  simp [*]
theorem rightB_no {n p : Int} {es rs : List Int} (h : n < 1 ∨ 12 < n) : rightB n p es rs = false := decide_eq_false (by omega)
end Go.Pv

