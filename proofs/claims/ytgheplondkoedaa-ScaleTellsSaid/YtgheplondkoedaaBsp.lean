import Derived.Test.YtgheplondkoedaaWf
namespace Go.Pv
set_option linter.unusedVariables false
set_option linter.unusedSimpArgs false
open Go
/-! ### slices.SortStableFunc, word for word, as functions on lists -/
theorem wadd {a b : Nat} (h : a + b < 4611686018427387904) : IntKind.i64.wrap ((a : Int) + (b : Int)) = ((a + b : Nat) : Int) := by rw [IntKind.wrap_i64]; omega
theorem wsub {a b : Nat} (h : b ≤ a) (h2 : a < 4611686018427387904) : IntKind.i64.wrap ((a : Int) - (b : Int)) = ((a - b : Nat) : Int) := by rw [IntKind.wrap_i64]; omega
theorem wpred {a : Nat} (h : 1 ≤ a) (h2 : a < 4611686018427387904) : IntKind.i64.wrap ((a : Int) - 1) = ((a - 1 : Nat) : Int) := by rw [IntKind.wrap_i64]; omega
theorem whalf {x : Nat} (h2 : x < 4611686018427387904) : IntKind.i64.wrap ((IntKind.u64.wrap (x : Int)).fdiv 2) = ((x / 2 : Nat) : Int) := by
  have h1 : IntKind.u64.wrap (x : Int) = x := by
    show ((x : Int) % 18446744073709551616) = x
    omega
  rw [h1, Int.fdiv_eq_ediv_of_nonneg _ (by decide), IntKind.wrap_i64]
  omega
theorem tn2 {a b : Nat} : ((a : Int) + (b : Int)).toNat = a + b := by omega
theorem tn3 {a b c : Nat} : ((a : Int) + (b : Int) - (c : Int)).toNat = a + b - c := by omega
theorem tn1 {a : Nat} : ((a : Int) + 1).toNat = a + 1 := by omega
theorem tnp {a : Nat} : ((a : Int) - 1).toNat = a - 1 := by omega
theorem wpr {a : Nat} (h : a < 4611686018427387904) : IntKind.i64.wrap ((a : Int) - 1) = (a : Int) - 1 := by rw [IntKind.wrap_i64]; omega
theorem tnh {a b : Nat} : (((a : Int) + (b : Int)) / 2).toNat = (a + b) / 2 := by omega
theorem whalf2 {a b : Nat} (h2 : a + b < 4611686018427387904) : IntKind.i64.wrap ((IntKind.u64.wrap ((a : Int) + (b : Int))).fdiv (2 ^ min 1 IntKind.u64.bits)) = (((a + b) / 2 : Nat) : Int) := by
  have := whalf (x := a + b) h2
  rwa [Int.natCast_add] at this
theorem i_at {d : List Int} {k : Nat} : d[k]?.getD 0 = d.getD k 0 := by rw [List.getD_eq_getElem?_getD]
def sw (d : List Int) (i j : Nat) : List Int := (d.set i (d[j]?.getD 0)).set j (d[i]?.getD 0)
structure Dok (N : Nat) (d : List Int) : Prop where
  len : d.length = N
  el : ∀ k : Nat, 0 ≤ d[k]?.getD 0 ∧ d[k]?.getD 0 < 289
theorem sw_ok {N : Nat} {d : List Int} (h : Dok N d) (i j : Nat) : Dok N (sw d i j) := by
  refine ⟨by simp [sw, h.len], fun k => ?_⟩
  unfold sw
  rw [List.getElem?_set, List.length_set, List.getElem?_set]
  have := h.el k
  have := h.el i
  have := h.el j
  split
  · split
    · exact h.el i
    · simp
  · split
    · split
      · exact h.el j
      · simp
    · exact h.el k
def cmI (fz : Int → Int) (x y : Int) : Int := if fz x < fz y then -1 else if fz y < fz x then 1 else 0
theorem cmI_lt (fz : Int → Int) (x y : Int) : (cmI fz x y < 0) = (fz x < fz y) := by
  unfold cmI
  split
  · simp_all
  · split <;> simp_all
def swR (a b : Nat) : Nat → Nat → List Int → List Int
  | 0, _, d => d
  | c + 1, i, d => swR a b c (i + 1) (sw d (a + i) (b + i))
theorem swR_step {a b c i : Nat} {d : List Int} (h : 0 < c) : swR a b c i d = swR a b (c - 1) (i + 1) (sw d (a + i) (b + i)) := by
  obtain ⟨c, rfl⟩ : ∃ e, c = e + 1 := ⟨c - 1, by omega⟩
  rfl
theorem swR_ok {N a b : Nat} : ∀ (c i : Nat) {d : List Int}, Dok N d → Dok N (swR a b c i d)
  | 0, _, _, h => h
  | c + 1, i, _, h => swR_ok c (i + 1) (sw_ok h _ _)
def rot (m : Nat) : Nat → Nat → Nat → List Int → List Int
  | 0, i, j, d => swR (m - i) m i 0 d
  | f + 1, i, j, d => if i = j then swR (m - i) m i 0 d else if j < i then rot m f (i - j) j (swR (m - i) m j 0 d) else rot m f i (j - i) (swR (m - i) (m + j - i) i 0 d)
theorem rot_gt {m f i j : Nat} {d : List Int} (h : 0 < f) (h1 : j < i) : rot m f i j d = rot m (f - 1) (i - j) j (swR (m - i) m j 0 d) := by
  obtain ⟨f, rfl⟩ : ∃ e, f = e + 1 := ⟨f - 1, by omega⟩
  rw [rot, if_neg (by omega), if_pos h1]; rfl
theorem rot_lt {m f i j : Nat} {d : List Int} (h : 0 < f) (h1 : i < j) : rot m f i j d = rot m (f - 1) i (j - i) (swR (m - i) (m + j - i) i 0 d) := by
  obtain ⟨f, rfl⟩ : ∃ e, f = e + 1 := ⟨f - 1, by omega⟩
  rw [rot, if_neg (by omega), if_neg (by omega)]; rfl
theorem rot_eq {m f i j : Nat} {d : List Int} (h1 : i = j) : rot m f i j d = swR (m - i) m i 0 d := by
  cases f with
  | zero => rfl
  | succ f => rw [rot, if_pos h1]
theorem rot_ok {N m : Nat} : ∀ (f i j : Nat) {d : List Int}, Dok N d → Dok N (rot m f i j d)
  | 0, i, j, _, h => swR_ok _ _ h
  | f + 1, i, j, _, h => by
    rw [rot]
    split
    · exact swR_ok _ _ h
    · split
      · exact rot_ok f _ _ (swR_ok _ _ h)
      · exact rot_ok f _ _ (swR_ok _ _ h)
def insJ (fz : Int → Int) (a : Nat) : Nat → List Int → List Int
  | 0, d => d
  | j + 1, d => if a < j + 1 ∧ fz (d[j + 1]?.getD 0) < fz (d[j]?.getD 0) then insJ fz a j (sw d (j + 1) j) else d
theorem insJ_step {fz : Int → Int} {a j : Nat} {d : List Int} (h : a < j ∧ fz (d[j]?.getD 0) < fz (d[j - 1]?.getD 0)) : insJ fz a j d = insJ fz a (j - 1) (sw d j (j - 1)) := by
  obtain ⟨j, rfl⟩ : ∃ e, j = e + 1 := ⟨j - 1, by omega⟩
  exact if_pos h
theorem insJ_stop {fz : Int → Int} {a j : Nat} {d : List Int} (h : ¬ (a < j ∧ fz (d[j]?.getD 0) < fz (d[j - 1]?.getD 0))) : insJ fz a j d = d := by
  cases j with
  | zero => rfl
  | succ j => exact if_neg h
theorem insJ_ok {N a : Nat} {fz : Int → Int} : ∀ (j : Nat) {d : List Int}, Dok N d → Dok N (insJ fz a j d)
  | 0, _, h => h
  | j + 1, _, h => by
    rw [insJ]
    split
    · exact insJ_ok j (sw_ok h _ _)
    · exact h
def insR (fz : Int → Int) (a : Nat) : Nat → Nat → List Int → List Int
  | 0, _, d => d
  | c + 1, i, d => insR fz a c (i + 1) (insJ fz a i d)
theorem insR_step {fz : Int → Int} {a c i : Nat} {d : List Int} (h : 0 < c) : insR fz a c i d = insR fz a (c - 1) (i + 1) (insJ fz a i d) := by
  obtain ⟨c, rfl⟩ : ∃ e, c = e + 1 := ⟨c - 1, by omega⟩
  rfl
theorem insR_ok {N a : Nat} {fz : Int → Int} : ∀ (c i : Nat) {d : List Int}, Dok N d → Dok N (insR fz a c i d)
  | 0, _, _, h => h
  | c + 1, i, _, h => insR_ok c (i + 1) (insJ_ok i h)
def ins (fz : Int → Int) (a b : Nat) (d : List Int) : List Int := insR fz a (b - (a + 1)) (a + 1) d
def bis (t : Nat → Bool) : Nat → Nat → Nat → Nat
  | 0, i, _ => i
  | f + 1, i, j => if i < j then (if t ((i + j) / 2) = true then bis t f ((i + j) / 2 + 1) j else bis t f i ((i + j) / 2)) else i
theorem bis_y {t : Nat → Bool} {f i j : Nat} (h : 0 < f) (h1 : i < j) (h2 : t ((i + j) / 2) = true) : bis t f i j = bis t (f - 1) ((i + j) / 2 + 1) j := by
  obtain ⟨f, rfl⟩ : ∃ e, f = e + 1 := ⟨f - 1, by omega⟩
  rw [bis, if_pos h1, if_pos h2]; rfl
theorem bis_n {t : Nat → Bool} {f i j : Nat} (h : 0 < f) (h1 : i < j) (h2 : ¬ t ((i + j) / 2) = true) : bis t f i j = bis t (f - 1) i ((i + j) / 2) := by
  obtain ⟨f, rfl⟩ : ∃ e, f = e + 1 := ⟨f - 1, by omega⟩
  rw [bis, if_pos h1, if_neg h2]; rfl
theorem bis_e {t : Nat → Bool} {f i j : Nat} (h1 : j ≤ i) : bis t f i j = i := by
  cases f with
  | zero => rfl
  | succ f => rw [bis, if_neg (by omega)]
def tA (fz : Int → Int) (d : List Int) (a : Nat) (h : Nat) : Bool := decide (fz (d[h]?.getD 0) < fz (d[a]?.getD 0))
def tB (fz : Int → Int) (d : List Int) (m : Nat) (h : Nat) : Bool := !decide (fz (d[m]?.getD 0) < fz (d[h]?.getD 0))
def tC (fz : Int → Int) (d : List Int) (p : Nat) (c : Nat) : Bool := !decide (fz (d[p - c]?.getD 0) < fz (d[c]?.getD 0))
def movR : Nat → Nat → List Int → List Int
  | 0, _, d => d
  | c + 1, k, d => movR c (k + 1) (sw d k (k + 1))
theorem movR_step {c k : Nat} {d : List Int} (h : 0 < c) : movR c k d = movR (c - 1) (k + 1) (sw d k (k + 1)) := by
  obtain ⟨c, rfl⟩ : ∃ e, c = e + 1 := ⟨c - 1, by omega⟩
  rfl
theorem movR_ok {N : Nat} : ∀ (c k : Nat) {d : List Int}, Dok N d → Dok N (movR c k d)
  | 0, _, _, h => h
  | c + 1, k, _, h => movR_ok c (k + 1) (sw_ok h _ _)
def movL : Nat → Nat → List Int → List Int
  | 0, _, d => d
  | c + 1, k, d => movL c (k - 1) (sw d k (k - 1))
theorem movL_step {c k : Nat} {d : List Int} (h : 0 < c) : movL c k d = movL (c - 1) (k - 1) (sw d k (k - 1)) := by
  obtain ⟨c, rfl⟩ : ∃ e, c = e + 1 := ⟨c - 1, by omega⟩
  rfl
theorem movL_ok {N : Nat} : ∀ (c k : Nat) {d : List Int}, Dok N d → Dok N (movL c k d)
  | 0, _, _, h => h
  | c + 1, k, _, h => movL_ok c (k - 1) (sw_ok h _ _)
def sS (a m b : Nat) : Nat := if (a + b) / 2 < m then (a + b) / 2 + m - b else a
def sR (a m b : Nat) : Nat := if (a + b) / 2 < m then (a + b) / 2 else m
def sI (fz : Int → Int) (a m b : Nat) (d : List Int) : Nat := bis (tC fz d ((a + b) / 2 + m - 1)) (sR a m b - sS a m b) (sS a m b) (sR a m b)
def sD (fz : Int → Int) (a m b : Nat) (d : List Int) : List Int := if sI fz a m b d < m ∧ m < (a + b) / 2 + m - sI fz a m b d then rot m ((a + b) / 2 + m - sI fz a m b d - sI fz a m b d) (m - sI fz a m b d) ((a + b) / 2 + m - sI fz a m b d - m) d else d
def symM (fz : Int → Int) : Nat → Nat → Nat → Nat → List Int → List Int
  | 0, _, _, _, d => d
  | f + 1, a, m, b, d =>
    if m - a = 1 then movR (bis (tA fz d a) (b - m) m b - 1 - a) a d
    else if b - m = 1 then movL (m - bis (tB fz d m) (m - a) a m) m d
    else
      let s := sI fz a m b d
      let d1 := sD fz a m b d
      let d2 := if a < s ∧ s < (a + b) / 2 then symM fz f a s ((a + b) / 2) d1 else d1
      if (a + b) / 2 < (a + b) / 2 + m - s ∧ (a + b) / 2 + m - s < b then symM fz f ((a + b) / 2) ((a + b) / 2 + m - s) b d2 else d2
theorem symM_1 {fz : Int → Int} {f a m b : Nat} {d : List Int} (h : m - a = 1) : symM fz (f + 1) a m b d = movR (bis (tA fz d a) (b - m) m b - 1 - a) a d := by rw [symM, if_pos h]
theorem symM_2 {fz : Int → Int} {f a m b : Nat} {d : List Int} (h : ¬ m - a = 1) (h2 : b - m = 1) : symM fz (f + 1) a m b d = movL (m - bis (tB fz d m) (m - a) a m) m d := by rw [symM, if_neg h, if_pos h2]
theorem symM_3 {fz : Int → Int} {f a m b : Nat} {d : List Int} (h : ¬ m - a = 1) (h2 : ¬ b - m = 1) {s mid en : Nat} (hmid : mid = (a + b) / 2) (hs : sI fz a m b d = s) (he : en = mid + m - s) :
    symM fz (f + 1) a m b d = if mid < en ∧ en < b then symM fz f mid en b (if a < s ∧ s < mid then symM fz f a s mid (if s < m ∧ m < en then rot m (en - s) (m - s) (en - m) d else d) else (if s < m ∧ m < en then rot m (en - s) (m - s) (en - m) d else d)) else (if a < s ∧ s < mid then symM fz f a s mid (if s < m ∧ m < en then rot m (en - s) (m - s) (en - m) d else d) else (if s < m ∧ m < en then rot m (en - s) (m - s) (en - m) d else d)) := by
  subst he
  rw [symM, if_neg h, if_neg h2, sD, hs, ← hmid]
theorem sD_ok {N a m b : Nat} {fz : Int → Int} {d : List Int} (h : Dok N d) : Dok N (sD fz a m b d) := by
  unfold sD
  split
  · exact rot_ok _ _ _ h
  · exact h
theorem symM_ok {N : Nat} {fz : Int → Int} : ∀ (f a m b : Nat) {d : List Int}, Dok N d → Dok N (symM fz f a m b d)
  | 0, _, _, _, _, h => h
  | f + 1, a, m, b, d, h => by
    rw [symM]
    split
    · exact movR_ok _ _ h
    · split
      · exact movL_ok _ _ h
      · have h1 : Dok N (sD fz a m b d) := sD_ok h
        have h2 : Dok N (if a < sI fz a m b d ∧ sI fz a m b d < (a + b) / 2 then symM fz f a (sI fz a m b d) ((a + b) / 2) (sD fz a m b d) else sD fz a m b d) := by
          split
          · exact symM_ok f _ _ _ h1
          · exact h1
        show Dok N (if _ then _ else _)
        split
        · exact symM_ok f _ _ _ h2
        · exact h2
def stB (fz : Int → Int) (n : Nat) : Nat → Nat → Nat → List Int → List Int
  | 0, a, _, d => ins fz a n d
  | f + 1, a, b, d => if b ≤ n then stB fz n f b (b + 20) (ins fz a b d) else ins fz a n d
theorem stB_y {fz : Int → Int} {n f a b : Nat} {d : List Int} (h : 0 < f) (h1 : b ≤ n) : stB fz n f a b d = stB fz n (f - 1) b (b + 20) (ins fz a b d) := by
  obtain ⟨f, rfl⟩ : ∃ e, f = e + 1 := ⟨f - 1, by omega⟩
  rw [stB, if_pos h1]; rfl
theorem stB_n {fz : Int → Int} {n f a b : Nat} {d : List Int} (h1 : n < b) : stB fz n f a b d = ins fz a n d := by
  cases f with
  | zero => rfl
  | succ f => rw [stB, if_neg (by omega)]
def stM (fz : Int → Int) (n s : Nat) : Nat → Nat → Nat → List Int → List Int
  | 0, _, _, d => d
  | f + 1, a, b, d => if b ≤ n then stM fz n s f b (b + 2 * s) (symM fz (b - a) a (a + s) b d) else if a + s < n then symM fz (n - a) a (a + s) n d else d
theorem stM_y {fz : Int → Int} {n s f a b : Nat} {d : List Int} (h : 0 < f) (h1 : b ≤ n) : stM fz n s f a b d = stM fz n s (f - 1) b (b + 2 * s) (symM fz (b - a) a (a + s) b d) := by
  obtain ⟨f, rfl⟩ : ∃ e, f = e + 1 := ⟨f - 1, by omega⟩
  rw [stM, if_pos h1]; rfl
theorem stM_n {fz : Int → Int} {n s f a b : Nat} {d : List Int} (h : 0 < f) (h1 : ¬ b ≤ n) : stM fz n s f a b d = if a + s < n then symM fz (n - a) a (a + s) n d else d := by
  obtain ⟨f, rfl⟩ : ∃ e, f = e + 1 := ⟨f - 1, by omega⟩
  rw [stM, if_neg h1]
theorem stM_ok {N n s : Nat} {fz : Int → Int} : ∀ (f a b : Nat) {d : List Int}, Dok N d → Dok N (stM fz n s f a b d)
  | 0, _, _, _, h => h
  | f + 1, a, b, d, h => by
    rw [stM]
    split
    · exact stM_ok f _ _ (symM_ok _ _ _ _ h)
    · split
      · exact symM_ok _ _ _ _ h
      · exact h
def stD (fz : Int → Int) (n : Nat) : Nat → Nat → List Int → List Int
  | 0, _, d => d
  | f + 1, s, d => if s < n then stD fz n f (s * 2) (stM fz n s (n + 1) 0 (2 * s) d) else d
theorem stD_y {fz : Int → Int} {n f s : Nat} {d : List Int} (h : 0 < f) (h1 : s < n) : stD fz n f s d = stD fz n (f - 1) (s * 2) (stM fz n s (n + 1) 0 (2 * s) d) := by
  obtain ⟨f, rfl⟩ : ∃ e, f = e + 1 := ⟨f - 1, by omega⟩
  rw [stD, if_pos h1]; rfl
theorem stD_n {fz : Int → Int} {n f s : Nat} {d : List Int} (h1 : n ≤ s) : stD fz n f s d = d := by
  cases f with
  | zero => rfl
  | succ f => rw [stD, if_neg (by omega)]
def stab (fz : Int → Int) (n : Nat) (d : List Int) : List Int := stD fz n n 20 (stB fz n n 0 20 d)
end Go.Pv

